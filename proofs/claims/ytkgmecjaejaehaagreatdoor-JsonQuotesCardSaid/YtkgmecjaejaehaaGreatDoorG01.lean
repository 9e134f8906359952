/- Part of a proof: see the last text. -/
import Derived.Test.YtkgmecjaejaehaaGreatDoorG00
import Derived.Maps.AppendAt
set_option linter.unusedVariables false
set_option linter.unusedSimpArgs false
namespace Go.Eng
variable {P : Program}
def St.put (S : St) (t : Nat) (d : D) : St := ⟨(t, d) :: S.slots, S.heap⟩
def St.hput (S : St) (s g : Nat) (b : Blk) : St := ⟨S.slots, (s, (g, b)) :: S.heap⟩
def St.set (S : St) (dst : Option Nat) (d : D) : St := match dst with | some t => S.put t d | none => S
def Ctx.add (C : Ctx) (s g : Nat) (u : Value) : Ctx :=
 ⟨fun s' g' => if s' = s ∧ g' = g then some u else C.val s' g', fun s' g' => if s' = s ∧ g' = g then true else C.live s' g'⟩
def Ctx.kill (C : Ctx) (s g : Nat) : Ctx := ⟨C.val, fun s' g' => if s' = s ∧ g' = g then false else C.live s' g'⟩
structure Pushed (w : World) (o : Obj) (w1 : World) : Prop where
 heap : w1.heap = w.heap.push o
 os : w1.os = w.os
 tape : w1.tape = w.tape
 output : w1.output = w.output
theorem Pushed.alloc (w : World) (o : Obj) : Pushed w o (w.alloc o) := ⟨rfl, rfl, rfl, rfl⟩
theorem Pushed.drew (w : World) (o : Obj) : Pushed w o (w.drew.alloc o) := ⟨rfl, rfl, rfl, rfl⟩
section
variable {w0 : World} {B : Nat → Nat → Prop} {C0 : Ctx} {n : Nat} {S : St} {C : Ctx} {a : Act} {w w1 : World} {o : Obj}
theorem Pushed.old (h : Pushed w o w1) {b : Nat} (hb : b < w.heap.size) : w1.heap[b]? = w.heap[b]? := by
 rw [h.heap]; simp [Array.getElem?_push, Nat.ne_of_lt hb]
theorem Pushed.new (h : Pushed w o w1) : w1.heap[w.heap.size]? = some o := by rw [h.heap]; simp
theorem Pushed.size (h : Pushed w o w1) : w1.heap.size = w.heap.size + 1 := by rw [h.heap]; simp
theorem HRep.keep {C C' : Ctx} {w w' : World} {s g : Nat} {b : Blk} (h : HRep C w s g b) (e : Ext C w C' w') (hl : C.live s g = true → C'.live s g = true)
  (hb : ∀ u k, C.val s g = some u → C.live s g = true → blk u = some k → w'.heap[k]? = w.heap[k]?) : HRep C' w' s g b := by
 cases b with
 | box cs =>
  obtain ⟨b, arr, ty, h1, h2, h3, h4, h5⟩ := h
  exact ⟨b, arr, ty, e.val _ _ _ h1, hl h2, (hb _ b h1 h2 rfl).trans h3, h4, fun j c u hj hu => ⟨((h5 j c u hj hu).1).mono e, (h5 j c u hj hu).2⟩⟩
 | row ty k es =>
  obtain ⟨u, xs, h1, h2, h3, h4, h5⟩ := h
  refine ⟨u, xs, e.val _ _ _ h1, hl h2, ⟨h3.1, ?_⟩, h4, fun i j e' c x hi hj hx => ⟨((h5 i j e' c x hi hj hx).1).mono e, (h5 i j e' c x hi hj hx).2⟩⟩
  rcases h3.2 with hn | ⟨gb, cap, cur, rfl, hz, hg, rest⟩
  ·exact .inl hn
  ·exact .inr ⟨gb, cap, cur, rfl, hz, (hb _ gb h1 h2 rfl).trans hg, rest⟩
 | froz k es =>
  obtain ⟨u, h1, h2⟩ := h
  exact ⟨u, e.val _ _ _ h1, h2.mono e⟩
 | map es =>
  obtain ⟨r, arr, clock, h1, h2, h3, h4, h5⟩ := h
  exact ⟨r, arr, clock, e.val _ _ _ h1, hl h2, (hb _ r h1 h2 rfl).trans h3, h4, fun j c x hj hx => ⟨(h5 j c x hj hx).1, (h5 j c x hj hx).2.mono e⟩⟩
 | bld t nr gr =>
  obtain ⟨b, p, v, h1, h2, h3, h4, h5⟩ := h
  exact ⟨b, p, v, e.val _ _ _ h1, hl h2, (hb _ b h1 h2 rfl).trans h3, h4, e.val _ _ _ h5⟩
 | brow ty l =>
  obtain ⟨u, h1, h2, h3⟩ := h
  refine ⟨u, e.val _ _ _ h1, hl h2, ⟨h3.1, ?_⟩⟩
  rcases h3.2 with hn | ⟨gb, cap, cur, fz, rfl, hz, hg, rest⟩
  ·exact .inl hn
  ·exact .inr ⟨gb, cap, cur, fz, rfl, hz, (hb _ gb h1 h2 rfl).trans hg, rest⟩
theorem look_hput {S : St} {s g s' : Nat} {b : Blk} : look (S.hput s g b).heap s' = if s = s' then some (g, b) else look S.heap s' := rfl
theorem Inv.put (I : Inv w0 B C0 n S C a w) {t : Nat} {d : D} {u : Value} (ht : t < n) (hr : Rep C w d u) : Inv w0 B C0 n (S.put t d) C (a.put (some t) u) w := by
 refine ⟨by simp [Act.put, I.size], I.defers, fun k d' hk => ?_, I.heap, I.mine, I.apart, I.bound, I.fresh, I.frame, I.old, I.owned, I.kept, I.ents, I.dead0, I.bound0⟩
 simp only [St.put, look] at hk
 split at hk
 ·rename_i e
  subst e
  simp only [Option.some.injEq] at hk
  subst hk
  exact ⟨u, by simp [Act.put, I.size, ht], hr⟩
 ·rename_i e
  obtain ⟨x, hx, hrx⟩ := I.slots k d' hk
  exact ⟨x, by simp [Act.put, Array.getElem?_setIfInBounds_ne e, hx], hrx⟩
theorem Inv.set (I : Inv w0 B C0 n S C a w) {dst : Option Nat} {d : D} {u : Value} (ht : ∀ t, dst = some t → t < n) (hr : Rep C w d u) : Inv w0 B C0 n (S.set dst d) C (a.put dst u) w := by
 cases dst with
 | none => exact I
 | some t => exact I.put (ht t rfl) hr
theorem Inv.quiet (I : Inv w0 B C0 n S C a w) {w' : World} (hh : w'.heap = w.heap) (h1 : w'.os = w.os) (h2 : w'.tape = w.tape) (h3 : w'.output = w.output) : Inv w0 B C0 n S C a w' := by
 have e : Ext C w C w' := ⟨fun _ _ _ h => h, fun _ _ h => h, fun b _ _ => by rw [hh], by rw [hh]; exact Nat.le_refl _⟩
 refine ⟨I.size, I.defers, fun k d hk => ?_, fun s g b hb => (I.heap s g b hb).keep e id (fun _ _ _ _ _ => by rw [hh]), I.mine, I.apart, fun s g u b hv hl hb => by rw [hh]; exact I.bound s g u b hv hl hb, I.fresh,
  ⟨h1.trans I.frame.os, h2.trans I.frame.tape, h3.trans I.frame.output, by rw [hh]; exact I.frame.size, fun b hb hn => by rw [hh]; exact I.frame.block b hb hn⟩, I.old, I.owned, I.kept, I.ents, I.dead0, I.bound0⟩
 obtain ⟨u, hu, hr⟩ := I.slots k d hk
 exact ⟨u, hu, hr.mono e⟩
theorem Inv.newExt (I : Inv w0 B C0 n S C a w) {s g : Nat} {u : Value} (hg : C.val s g = none) (hu : blk u = some w.heap.size) (hp : Pushed w o w1) : Ext C w (C.add s g u) w1 where
 val := fun s' g' x hx => by
  simp only [Ctx.add]
  rw [if_neg]
  ·exact hx
  ·rintro ⟨rfl, rfl⟩; rw [hg] at hx; cases hx
 owns := fun b hb ⟨s', g', u', h1, h2, h3⟩ => by
  simp only [Ctx.add] at h1 h2
  split at h1
  ·rename_i e
   simp only [Option.some.injEq] at h1
   subst h1
   rw [hu] at h3
   simp only [Option.some.injEq] at h3
   omega
  ·rename_i e
   rw [if_neg e] at h2
   exact ⟨s', g', u', h1, h2, h3⟩
 heap := fun b hb _ => hp.old hb
 size := by rw [hp.size]; omega
theorem Inv.new (I : Inv w0 B C0 n S C a w) (s : Nat) (b : Blk) (u : Value) (hu : blk u = some w.heap.size) (hp : Pushed w o w1)
  (hH : ∀ C' g, Ext C w C' w1 → C'.val s g = some u → C'.live s g = true → HRep C' w1 s g b) :
  ∃ g C', Inv w0 B C0 n (S.hput s g b) C' a w1 ∧ C'.val s g = some u ∧ Ext C w C' w1 := by
 obtain ⟨N, hN⟩ := I.fresh s
 have hg := hN N (Nat.le_refl _)
 have e := I.newExt (o := o) hg hu hp
 have hv : (C.add s N u).val s N = some u := by simp [Ctx.add]
 have hl : (C.add s N u).live s N = true := by simp [Ctx.add]
 have old : ∀ s' g' x, (C.add s N u).val s' g' = some x → (s' = s ∧ g' = N ∧ x = u) ∨ (¬ (s' = s ∧ g' = N) ∧ C.val s' g' = some x) := fun s' g' x hx => by
  simp only [Ctx.add] at hx
  split at hx
  ·rename_i h; simp only [Option.some.injEq] at hx; exact .inl ⟨h.1, h.2, hx.symm⟩
  ·rename_i h; exact .inr ⟨h, hx⟩
 have oldl : ∀ s' g', ¬ (s' = s ∧ g' = N) → (C.add s N u).live s' g' = C.live s' g' := fun s' g' h => by simp only [Ctx.add]; rw [if_neg h]
 refine ⟨N, C.add s N u, ?_, hv, e⟩
 refine ⟨I.size, I.defers, fun k d hk => ?_, fun s' g' b' hb' => ?_, fun s' g' b' x u' hx hl' hv' hb' => ?_, fun s1 g1 u1 s2 g2 u2 b' h1 h2 h3 h4 h5 h6 => ?_, fun s' g' u' b' h1 h2 h3 => ?_,
  fun s' => ?_, ?_, fun s' g' x hx => e.val _ _ _ (I.old _ _ _ hx), fun b' hb' ho => I.owned b' hb' (e.owns b' (Nat.lt_of_lt_of_le hb' I.frame.size) ho), fun s' g' u' h1 h2 h4 => ?_, fun s' g' x y hx hy => ?_, fun s' g' x h1 h2 => ?_, I.bound0⟩
 ·obtain ⟨x, hx, hr⟩ := I.slots k d hk
  exact ⟨x, hx, hr.mono e⟩
 ·rw [look_hput] at hb'
  split at hb'
  ·rename_i es
   subst es
   simp only [Option.some.injEq, Prod.mk.injEq] at hb'
   obtain ⟨rfl, rfl⟩ := hb'
   exact hH _ _ e hv hl
  ·refine (I.heap s' g' b' hb').keep e (fun h => ?_) (fun u' k h1 h2 h3 => hp.old (I.bound _ _ _ _ h1 h2 h3))
   by_cases hs : s' = s ∧ g' = N
   ·simp [Ctx.add, hs]
   ·rw [oldl _ _ hs]; exact h
 ·rw [look_hput] at hx
  rcases old s' g' u' hv' with ⟨rfl, rfl, rfl⟩ | ⟨hn, hv2⟩
  ·rw [hu] at hb'
   simp only [Option.some.injEq] at hb'
   subst hb'
   exact .inl I.frame.size
  ·rw [oldl _ _ hn] at hl'
   split at hx
   ·rename_i es
    subst es
    simp only [Option.some.injEq, Prod.mk.injEq] at hx
    obtain ⟨rfl, rfl⟩ := hx
    exact absurd ⟨rfl, rfl⟩ hn
   ·exact I.mine s' g' b' x u' hx hl' hv2 hb'
 ·rcases old s1 g1 u1 h1 with ⟨rfl, rfl, rfl⟩ | ⟨hn1, hv1⟩
  ·rcases old s2 g2 u2 h3 with ⟨rfl, rfl, rfl⟩ | ⟨hn2, hv2⟩
   ·exact ⟨rfl, rfl⟩
   ·rw [oldl _ _ hn2] at h4
    rw [hu] at h5
    simp only [Option.some.injEq] at h5
    have := I.bound s2 g2 u2 b' hv2 h4 h6
    omega
  ·rw [oldl _ _ hn1] at h2
   rcases old s2 g2 u2 h3 with ⟨rfl, rfl, rfl⟩ | ⟨hn2, hv2⟩
   ·rw [hu] at h6
    simp only [Option.some.injEq] at h6
    have := I.bound s1 g1 u1 b' hv1 h2 h5
    omega
   ·rw [oldl _ _ hn2] at h4
    exact I.apart s1 g1 u1 s2 g2 u2 b' hv1 h2 hv2 h4 h5 h6
 ·rw [hp.size]
  rcases old s' g' u' h1 with ⟨rfl, rfl, rfl⟩ | ⟨hn, hv2⟩
  ·rw [hu] at h3
   simp only [Option.some.injEq] at h3
   omega
  ·rw [oldl _ _ hn] at h2
   have := I.bound s' g' u' b' hv2 h2 h3
   omega
 ·obtain ⟨M, hM⟩ := I.fresh s'
  refine ⟨max M (N + 1), fun g' hg' => ?_⟩
  simp only [Ctx.add]
  rw [if_neg (by omega)]
  exact hM g' (by omega)
 ·exact ⟨hp.os.trans I.frame.os, hp.tape.trans I.frame.tape, hp.output.trans I.frame.output, by rw [hp.size]; have := I.frame.size; omega,
   fun b' hb' hnb => (hp.old (Nat.lt_of_lt_of_le hb' I.frame.size)).trans (I.frame.block b' hb' hnb)⟩
 ·have hx := I.kept s' g' u' h1 h2 h4
  by_cases hs : s' = s ∧ g' = N
  ·simp [Ctx.add, hs]
  ·rw [oldl _ _ hs]; exact hx
 ·rw [look_hput] at hx
  split at hx
  ·rename_i es
   subst es
   simp only [Option.some.injEq, Prod.mk.injEq] at hx
   obtain ⟨rfl, rfl⟩ := hx
   have := I.old _ _ _ hy
   rw [hg] at this; cases this
  ·exact I.ents s' g' x y hx hy
 ·by_cases hs : s' = s ∧ g' = N
  ·obtain ⟨rfl, rfl⟩ := hs
   have := I.old _ _ _ h1
   rw [hg] at this; cases this
  ·rw [oldl _ _ hs] at h2
   exact I.dead0 _ _ _ h1 h2
def Trk (S : St) (C : Ctx) (w : World) (S' : St) (C' : Ctx) : Prop :=
 ∀ s g x u b, look S'.heap s = some (g, x) → C'.val s g = some u → blk u = some b → w.heap.size ≤ b ∨ ∃ g0 x0 u0, look S.heap s = some (g0, x0) ∧ C.val s g0 = some u0 ∧ blk u0 = some b
def NewAt (w : World) (S : St) (C : Ctx) (t : Nat) : Prop := ∀ g x u b, look S.heap t = some (g, x) → C.val t g = some u → blk u = some b → w.heap.size ≤ b
theorem hrep_val {C : Ctx} {w : World} {s g : Nat} {b : Blk} (h : HRep C w s g b) : ∃ x, C.val s g = some x := by
 cases b with
 | box cs => obtain ⟨_, _, _, h, _⟩ := h; exact ⟨_, h⟩
 | row e k es => obtain ⟨_, _, h, _⟩ := h; exact ⟨_, h⟩
 | froz k es => obtain ⟨_, h, _⟩ := h; exact ⟨_, h⟩
 | map es => obtain ⟨_, _, _, h, _⟩ := h; exact ⟨_, h⟩
 | bld t nr gr => obtain ⟨_, _, _, h, _⟩ := h; exact ⟨_, h⟩
 | brow e l => obtain ⟨_, h, _⟩ := h; exact ⟨_, h⟩
theorem Inv.trkSame (I : Inv w0 B C0 n S C a w) {S' : St} {C' : Ctx} (hv : ∀ s g x, C.val s g = some x → C'.val s g = some x) (hh : ∀ s g x, look S'.heap s = some (g, x) → ∃ x0, look S.heap s = some (g, x0)) : Trk S C w S' C' := by
 intro s g x u b hx hu hb
 obtain ⟨x0, h0⟩ := hh s g x hx
 obtain ⟨y, hy⟩ := hrep_val (I.heap s g x0 h0)
 have := hv s g y hy
 rw [hu] at this
 simp only [Option.some.injEq] at this
 subst this
 exact .inr ⟨g, x0, u, h0, hy, hb⟩
theorem Trk.new {S S' : St} {C C' C'' : Ctx} {t g : Nat} {y : Blk} {v : Value} {k : Nat} (h : Trk S C w S' C') (hv : ∀ s g x, C'.val s g = some x → C''.val s g = some x) (hS : ∀ s g x, look S'.heap s = some (g, x) → ∃ u, C'.val s g = some u) (hn : C''.val t g = some v) (hk : blk v = some k) (hw : w.heap.size ≤ k) :
  Trk S C w (S'.hput t g y) C'' ∧ NewAt w (S'.hput t g y) C'' t := by
 refine ⟨fun s g' x u b hx hu hb => ?_, fun g' x u b hx hu hb => ?_⟩
 ·rw [look_hput] at hx
  split at hx
  ·rename_i e
   subst e
   simp only [Option.some.injEq, Prod.mk.injEq] at hx
   obtain ⟨rfl, rfl⟩ := hx
   rw [hn] at hu
   simp only [Option.some.injEq] at hu
   subst hu
   rw [hk] at hb
   simp only [Option.some.injEq] at hb
   exact .inl (by omega)
  ·obtain ⟨u', hu'⟩ := hS s g' x hx
   have := hv s g' u' hu'
   rw [hu] at this
   simp only [Option.some.injEq] at this
   subst this
   exact h s g' x u b hx hu' hb
 ·rw [look_hput, if_pos rfl] at hx
  simp only [Option.some.injEq, Prod.mk.injEq] at hx
  obtain ⟨rfl, rfl⟩ := hx
  rw [hn] at hu
  simp only [Option.some.injEq] at hu
  subst hu
  rw [hk] at hb
  simp only [Option.some.injEq] at hb
  omega
end
variable {P : Program}
section
variable {w0 : World} {B : Nat → Nat → Prop} {C0 : Ctx} {n : Nat} {S : St} {C : Ctx} {a : Act} {w w1 : World} {o : Obj}
theorem Inv.write (I : Inv w0 B C0 n S C a w) {s g b : Nat} {x x' : Blk} {u : Value} (hx : look S.heap s = some (g, x)) (hv : C.val s g = some u) (hl : C.live s g = true) (hb : blk u = some b)
  {w' : World} (hw : ∀ k, k ≠ b → w'.heap[k]? = w.heap[k]?) (hs : w'.heap.size = w.heap.size) (h1 : w'.os = w.os) (h2 : w'.tape = w.tape) (h3 : w'.output = w.output)
  (hH : Ext C w C w' → HRep C w' s g x') : Inv w0 B C0 n (S.hput s g x') C a w' ∧ Ext C w C w' := by
 have e : Ext C w C w' := ⟨fun _ _ _ h => h, fun _ _ h => h, fun k _ hn => hw k (fun ek => hn ⟨s, g, u, hv, hl, ek ▸ hb⟩), Nat.le_of_eq hs.symm⟩
 refine ⟨⟨I.size, I.defers, fun k d hk => ?_, fun s' g' b' hb' => ?_, fun s' g' b' y u' hy hl' hv' hb' => ?_, I.apart, fun s' g' u' b' q1 q2 q3 => by rw [hs]; exact I.bound s' g' u' b' q1 q2 q3, I.fresh,
  ⟨h1.trans I.frame.os, h2.trans I.frame.tape, h3.trans I.frame.output, by rw [hs]; exact I.frame.size, fun b' hb' hnb => ?_⟩, I.old, I.owned, I.kept, fun s' g' y z hy hz => by
   rw [look_hput] at hy
   split at hy
   ·rename_i es
    subst es
    simp only [Option.some.injEq, Prod.mk.injEq] at hy
    obtain ⟨rfl, rfl⟩ := hy
    exact I.ents _ _ _ z hx hz
   ·exact I.ents s' g' y z hy hz, I.dead0, I.bound0⟩, e⟩
 ·obtain ⟨y, hy, hr⟩ := I.slots k d hk
  exact ⟨y, hy, hr.mono e⟩
 ·rw [look_hput] at hb'
  split at hb'
  ·rename_i es
   subst es
   simp only [Option.some.injEq, Prod.mk.injEq] at hb'
   obtain ⟨rfl, rfl⟩ := hb'
   exact hH e
  ·rename_i es
   refine (I.heap s' g' b' hb').keep e id (fun u' k q1 q2 q3 => hw k (fun ek => ?_))
   subst ek
   exact es (I.apart s g u s' g' u' k hv hl q1 q2 hb q3).1
 ·rw [look_hput] at hy
  split at hy
  ·rename_i es
   subst es
   simp only [Option.some.injEq, Prod.mk.injEq] at hy
   obtain ⟨rfl, rfl⟩ := hy
   exact I.mine s g b' x u' hx hl' hv' hb'
  ·exact I.mine s' g' b' y u' hy hl' hv' hb'
 ·refine (hw b' (fun eb => ?_)).trans (I.frame.block b' hb' hnb)
  subst eb
  rcases I.mine s g b' x u hx hl hv hb with h | h
  ·omega
  ·exact hnb h.1
theorem blk_own {v : Value} {m : Nat} {ao : Option Addr} {cap : Nat} (h : v = .slice ao m cap) : blk v = v.ownBlock := by subst h; cases ao <;> rfl
theorem Inv.regrow (I : Inv w0 B C0 n S C a w) {s g : Nat} {x : Blk} {v v' : Value} (hx : look S.heap s = some (g, x)) (hv : C.val s g = some v) (hl : C.live s g = true) (hvo : blk v = v.ownBlock) (hvo' : blk v' = v'.ownBlock)
  {w' : World} (hg : w.grownBy w' v.ownBlock) (hat : v'.ownBlock = v.ownBlock ∨ v'.ownBlock = some w.heap.size) (hlt : ∀ k, v'.ownBlock = some k → k < w'.heap.size) {x' : Blk}
  (hH : ∀ C' g', Ext C w C' w' → C'.val s g' = some v' → C'.live s g' = true → HRep C' w' s g' x') :
  ∃ g' C', Inv w0 B C0 n (S.hput s g' x') C' a w' ∧ C'.val s g' = some v' ∧ Ext C w C' w' := by
 obtain ⟨N, hN⟩ := I.fresh s
 have hgN := hN N (Nat.le_refl _)
 have hne : ¬ (s = s ∧ g = N) := fun h => by rw [h.2, hgN] at hv; cases hv
 let C' : Ctx := (C.add s N v').kill s g
 have hv' : C'.val s N = some v' := by simp [C', Ctx.add, Ctx.kill]
 have hl' : C'.live s N = true := by
  have : ¬ (N = g) := fun h => hne ⟨rfl, h.symm⟩
  simp [C', Ctx.add, Ctx.kill, this]
 have old : ∀ s' g' y, C'.val s' g' = some y → (s' = s ∧ g' = N ∧ y = v') ∨ (¬ (s' = s ∧ g' = N) ∧ C.val s' g' = some y) := fun s' g' y hy => by
  simp only [C', Ctx.add, Ctx.kill] at hy
  split at hy
  ·rename_i h; simp only [Option.some.injEq] at hy; exact .inl ⟨h.1, h.2, hy.symm⟩
  ·rename_i h; exact .inr ⟨h, hy⟩
 have oldl : ∀ s' g', ¬ (s' = s ∧ g' = N) → C'.live s' g' = true → C.live s' g' = true ∧ ¬ (s' = s ∧ g' = g) := fun s' g' h hh => by
  simp only [C', Ctx.add, Ctx.kill] at hh
  split at hh
  ·cases hh
  ·rename_i h2
   try rw [if_neg h] at hh
   exact ⟨hh, h2⟩
 have livek : ∀ s' g', C.live s' g' = true → ¬ (s' = s ∧ g' = g) → C'.live s' g' = true := fun s' g' h h2 => by
  simp only [C', Ctx.add, Ctx.kill]
  rw [if_neg h2]
  split
  ·rfl
  ·exact h
 have e : Ext C w C' w' := by
  refine ⟨fun s' g' y hy => ?_, fun b hb ho => ?_, fun b hb hn => hg.block b hb (fun eb => hn ⟨s, g, v, hv, hl, by rw [hvo]; exact eb.symm⟩), hg.size⟩
  ·simp only [C', Ctx.add, Ctx.kill]
   rw [if_neg]
   ·exact hy
   ·rintro ⟨rfl, rfl⟩; rw [hgN] at hy; cases hy
  ·obtain ⟨s', g', u', q1, q2, q3⟩ := ho
   rcases old s' g' u' q1 with ⟨rfl, rfl, rfl⟩ | ⟨hn, q1'⟩
   ·rw [hvo'] at q3
    rcases hat with h | h
    ·exact ⟨s', g, v, hv, hl, by rw [hvo, ← h]; exact q3⟩
    ·rw [h] at q3
     simp only [Option.some.injEq] at q3
     omega
   ·exact ⟨s', g', u', q1', (oldl _ _ hn q2).1, q3⟩
 refine ⟨N, C', ⟨I.size, I.defers, fun k d hk => ?_, fun s' g' b' hb' => ?_, fun s' g' b' y u' hy hl2 hv2 hb' => ?_, fun s1 g1 u1 s2 g2 u2 b' q1 q2 q3 q4 q5 q6 => ?_, fun s' g' u' b' q1 q2 q3 => ?_,
  fun s' => ?_, ⟨hg.os.trans I.frame.os, hg.tape.trans I.frame.tape, hg.output.trans I.frame.output, Nat.le_trans I.frame.size hg.size, fun b' hb' hnb => ?_⟩, fun s' g' y hy => e.val _ _ _ (I.old _ _ _ hy),
  fun b' hb' ho => I.owned b' hb' (e.owns b' (Nat.lt_of_lt_of_le hb' I.frame.size) ho), fun s' g' u' q1 q2 q4 => ?_, fun s' g' y z hy hz => by
   rw [look_hput] at hy
   split at hy
   ·rename_i es
    subst es
    simp only [Option.some.injEq, Prod.mk.injEq] at hy
    obtain ⟨rfl, rfl⟩ := hy
    have := I.old _ _ _ hz
    rw [hgN] at this; cases this
   ·exact I.ents s' g' y z hy hz, fun s' g' y q1 q2 => ?_, I.bound0⟩, hv', e⟩
 ·obtain ⟨y, hy, hr⟩ := I.slots k d hk
  exact ⟨y, hy, hr.mono e⟩
 ·rw [look_hput] at hb'
  split at hb'
  ·rename_i es
   subst es
   simp only [Option.some.injEq, Prod.mk.injEq] at hb'
   obtain ⟨rfl, rfl⟩ := hb'
   exact hH _ _ e hv' hl'
  ·rename_i es
   refine (I.heap s' g' b' hb').keep e (fun h => livek _ _ h (fun h2 => es h2.1.symm)) (fun u' k q1 q2 q3 => hg.block k (I.bound _ _ _ _ q1 q2 q3) (fun ek => ?_))
   have := I.apart s g v s' g' u' k hv hl q1 q2 (by rw [hvo]; exact ek.symm) q3
   exact es this.1
 ·rw [look_hput] at hy
  split at hy
  ·rename_i es
   subst es
   simp only [Option.some.injEq, Prod.mk.injEq] at hy
   obtain ⟨rfl, rfl⟩ := hy
   rw [hv'] at hv2
   simp only [Option.some.injEq] at hv2
   subst hv2
   rw [hvo'] at hb'
   rcases hat with h | h
   ·exact I.mine s g b' x v hx hl hv (by rw [hvo, ← h]; exact hb')
   ·rw [h] at hb'
    simp only [Option.some.injEq] at hb'
    have := I.frame.size
    exact .inl (by omega)
  ·rename_i es
   have hn : ¬ (s' = s ∧ g' = N) := fun h => es h.1.symm
   rcases old s' g' u' hv2 with h | ⟨_, hv3⟩
   ·exact absurd ⟨h.1, h.2.1⟩ hn
   ·exact I.mine s' g' b' y u' hy (oldl _ _ hn hl2).1 hv3 hb'
 ·have newblk : ∀ k, v'.ownBlock = some k → ∀ s3 g3 u3, C.val s3 g3 = some u3 → C.live s3 g3 = true → ¬ (s3 = s ∧ g3 = g) → blk u3 ≠ some k := fun k hk s3 g3 u3 p1 p2 p3 p4 => by
   rcases hat with h | h
   ·exact p3 (by have := I.apart s3 g3 u3 s g v k p1 p2 hv hl p4 (by rw [hvo, ← h]; exact hk); exact this)
   ·rw [h] at hk
    simp only [Option.some.injEq] at hk
    have := I.bound s3 g3 u3 k p1 p2 p4
    omega
  rcases old s1 g1 u1 q1 with ⟨rfl, rfl, rfl⟩ | ⟨hn1, q1'⟩
  ·rcases old s2 g2 u2 q3 with ⟨rfl, rfl, rfl⟩ | ⟨hn2, q3'⟩
   ·exact ⟨rfl, rfl⟩
   ·obtain ⟨p1, p2⟩ := oldl _ _ hn2 q4
    exact absurd q6 (newblk b' (by rw [← hvo']; exact q5) s2 g2 u2 q3' p1 p2)
  ·obtain ⟨p1, p2⟩ := oldl _ _ hn1 q2
   rcases old s2 g2 u2 q3 with ⟨rfl, rfl, rfl⟩ | ⟨hn2, q3'⟩
   ·exact absurd q5 (newblk b' (by rw [← hvo']; exact q6) s1 g1 u1 q1' p1 p2)
   ·exact I.apart s1 g1 u1 s2 g2 u2 b' q1' p1 q3' (oldl _ _ hn2 q4).1 q5 q6
 ·rcases old s' g' u' q1 with ⟨rfl, rfl, rfl⟩ | ⟨hn, q1'⟩
  ·exact hlt b' (by rw [← hvo']; exact q3)
  ·exact Nat.lt_of_lt_of_le (I.bound s' g' u' b' q1' (oldl _ _ hn q2).1 q3) hg.size
 ·obtain ⟨M, hM⟩ := I.fresh s'
  refine ⟨max M (N + 1), fun g' hg' => ?_⟩
  simp only [C', Ctx.add, Ctx.kill]
  rw [if_neg (by omega)]
  exact hM g' (by omega)
 ·refine (hg.block b' (Nat.lt_of_lt_of_le hb' I.frame.size) (fun eb => ?_)).trans (I.frame.block b' hb' hnb)
  rcases I.mine s g b' x v hx hl hv (by rw [hvo]; exact eb.symm) with h | h
  ·omega
  ·exact hnb h.1
 ·refine livek _ _ (I.kept s' g' u' q1 q2 q4) (fun h => ?_)
  obtain ⟨rfl, rfl⟩ := h
  exact q4 (I.ents _ _ _ _ hx q1)
 ·by_cases hs : s' = s ∧ g' = N
  ·obtain ⟨rfl, rfl⟩ := hs
   have := I.old _ _ _ q1
   rw [hgN] at this; cases this
  ·exact I.dead0 _ _ _ q1 (oldl _ _ hs q2).1
theorem row_rep {C1 : Ctx} {w1 : World} {s g e k : Nat} {es : List (List D)} {u : Value} (h : HRep C w s g (.row e k es)) (hv : C.val s g = some u) (ext : Ext C w C1 w1) (hn : ∀ b, blk u = some b → ¬ C1.owns b ∧ w1.heap[b]? = w.heap[b]?) :
  Rep C1 w1 (.sl k es) u := by
 obtain ⟨u', xs, hv', hl, hown, hk, hall⟩ := h
 rw [hv] at hv'
 simp only [Option.some.injEq] at hv'
 subst hv'
 rcases hown.2 with ⟨rfl, h0⟩ | ⟨gb, cap, cur, rfl, _, hg, hnc, hcm, hcs, htake⟩
 ·have : es = [] := List.eq_nil_of_length_eq_zero h0
  subst this
  exact .slE _ _ _ (by simp)
 ·refine .sl k es gb 0 cap (fun i j => xs.getD (i * k + j) undef) hnc hcm hk (fun i j e' c hi hj => ?_) (fun i j e' c hi hj => ?_)
  all_goals
   have hlen : e'.length = k := hk _ (List.mem_of_getElem? hi)
   have h1 : j < k := by rw [← hlen]; exact (List.getElem?_eq_some_iff.1 hj).1
   have h2 : i < es.length := (List.getElem?_eq_some_iff.1 hi).1
   have h3 : i * k + j < xs.length := by
    rw [hown.1]
    calc i * k + j < i * k + k := by omega
     _ = (i + 1) * k := by rw [Nat.add_mul]; omega
     _ ≤ es.length * k := Nat.mul_le_mul_right _ h2
   have hxx : xs[i * k + j]? = some (xs[i * k + j]) := List.getElem?_eq_getElem h3
   have hgd : xs.getD (i * k + j) undef = xs[i * k + j] := by simp [List.getD, hxx]
  ·obtain ⟨n1, n2⟩ := hn gb rfl
   refine ⟨n1, ?_⟩
   have hcell := hown.cells (g := gb) rfl _ _ hxx
   rw [Addr.add_lit] at hcell
   rw [hgd]
   exact (World.cell?_of_block n2).trans hcell
  ·rw [hgd]
   exact ((hall i j e' c _ hi hj hxx).1).mono ext
theorem Inv.freeze (I : Inv w0 B C0 n S C a w) {s g e k : Nat} {es : List (List D)} (hx : look S.heap s = some (g, .row e k es)) :
  Inv w0 B C0 n (S.hput s g (.froz k es)) (C.kill s g) a w ∧ Ext C w (C.kill s g) w := by
 obtain ⟨u, xs, hv, hl, hown, hk, hall⟩ := I.heap s g _ hx
 have ext : Ext C w (C.kill s g) w := by
  refine ⟨fun _ _ _ h => h, fun b _ ⟨s', g', u', q1, q2, q3⟩ => ?_, fun _ _ _ => rfl, Nat.le_refl _⟩
  simp only [Ctx.kill] at q1 q2
  split at q2
  ·cases q2
  ·exact ⟨s', g', u', q1, q2, q3⟩
 have lv : ∀ s' g', (C.kill s g).live s' g' = true → C.live s' g' = true ∧ ¬ (s' = s ∧ g' = g) := fun s' g' h => by
  simp only [Ctx.kill] at h
  split at h
  ·cases h
  ·rename_i h2; exact ⟨h, h2⟩
 have lv2 : ∀ s' g', C.live s' g' = true → ¬ (s' = s ∧ g' = g) → (C.kill s g).live s' g' = true := fun s' g' h h2 => by
  simp only [Ctx.kill]; rw [if_neg h2]; exact h
 refine ⟨⟨I.size, I.defers, fun k d hk => ?_, fun s' g' b' hb' => ?_, fun s' g' b' y u' hy q1 q2 q3 => ?_, fun s1 g1 u1 s2 g2 u2 b' q1 q2 q3 q4 q5 q6 => I.apart _ _ _ _ _ _ _ q1 (lv _ _ q2).1 q3 (lv _ _ q4).1 q5 q6,
  fun s' g' u' b' q1 q2 q3 => I.bound _ _ _ _ q1 (lv _ _ q2).1 q3, I.fresh, I.frame, I.old, fun b hb ho => I.owned b hb (ext.owns b (Nat.lt_of_lt_of_le hb I.frame.size) ho), fun s' g' u' q1 q2 q4 => ?_, fun s' g' y z hy hz => by
   rw [look_hput] at hy
   split at hy
   ·rename_i es
    subst es
    simp only [Option.some.injEq, Prod.mk.injEq] at hy
    obtain ⟨rfl, rfl⟩ := hy
    exact I.ents _ _ _ z hx hz
   ·exact I.ents s' g' y z hy hz, fun s' g' y q1 q2 => I.dead0 _ _ _ q1 (lv _ _ q2).1, I.bound0⟩, ext⟩
 ·obtain ⟨y, hy, hr⟩ := I.slots k d hk
  exact ⟨y, hy, hr.mono ext⟩
 ·rw [look_hput] at hb'
  split at hb'
  ·rename_i eqs
   subst eqs
   simp only [Option.some.injEq, Prod.mk.injEq] at hb'
   obtain ⟨rfl, rfl⟩ := hb'
   refine ⟨u, hv, row_rep (I.heap s g _ hx) hv ext (fun b hb => ⟨fun ⟨s', g', u', q1, q2, q3⟩ => ?_, rfl⟩)⟩
   obtain ⟨p1, p2⟩ := lv _ _ q2
   exact p2 (I.apart s' g' u' s g _ b q1 p1 hv hl q3 hb)
  ·rename_i eqs
   exact (I.heap s' g' b' hb').keep ext (fun h => lv2 _ _ h (fun h2 => eqs h2.1.symm)) (fun _ _ _ _ _ => rfl)
 ·obtain ⟨p1, p2⟩ := lv _ _ q1
  rw [look_hput] at hy
  split at hy
  ·rename_i eqs
   subst eqs
   simp only [Option.some.injEq, Prod.mk.injEq] at hy
   exact absurd ⟨rfl, hy.1.symm⟩ p2
  ·exact I.mine s' g' b' y u' hy p1 q2 q3
 ·refine lv2 _ _ (I.kept s' g' u' q1 q2 q4) (fun h => ?_)
  obtain ⟨rfl, rfl⟩ := h
  exact q4 (I.ents _ _ _ _ hx q1)
end
variable {P : Program}
/-! freezing what is put into a list -/
def frz1 (S : St) (c : D) (k : St → D → Prop) : Prop :=
 match c with
 | .own s g =>
  match rowOf S s g with
  | some (_, k', es) => k (S.hput s g (.froz k' es)) (.sl k' es)
  | none =>
   match frozOf S s g with
   | some (k', es) => k S (.sl k' es)
   | none => False
 | c => k S c
def frzK : St → List D → (St → List D → Prop) → Prop
 | S, [], k => k S []
 | S, c :: cs, k => frz1 S c fun S' c' => frzK S' cs fun S'' cs' => k S'' (c' :: cs')
def frzL : St → List (List D) → (St → List (List D) → Prop) → Prop
 | S, [], k => k S []
 | S, e :: es, k => frzK S e fun S' e' => frzL S' es fun S'' es' => k S'' (e' :: es')
section
variable {w0 : World} {B : Nat → Nat → Prop} {C0 : Ctx} {n : Nat} {S : St} {C : Ctx} {a : Act} {w : World}
theorem frz1_ok (I : Inv w0 B C0 n S C a w) {c : D} {k : St → D → Prop} (h : frz1 S c k) :
  ∃ S' c' C', k S' c' ∧ Inv w0 B C0 n S' C' a w ∧ (Ext C w C' w ∧ ∀ s g x, look S'.heap s = some (g, x) → ∃ x0, look S.heap s = some (g, x0)) ∧ ∀ u, Rep C w c u → Rep C' w c' u := by
 have same : k S c → ∃ S' c' C', k S' c' ∧ Inv w0 B C0 n S' C' a w ∧ (Ext C w C' w ∧ ∀ s g x, look S'.heap s = some (g, x) → ∃ x0, look S.heap s = some (g, x0)) ∧ ∀ u, Rep C w c u → Rep C' w c' u := fun h => ⟨S, c, C, h, I, ⟨Ext.refl _ _, fun _ _ x h => ⟨x, h⟩⟩, fun _ h => h⟩
 cases c with
 | own s g =>
  simp only [frz1] at h
  split at h
  ·rename_i e k' es hr
   obtain ⟨I', e'⟩ := I.freeze (rowOf_spec hr)
   refine ⟨_, _, _, h, I', ⟨e', fun s' g' x hx => by
    rw [look_hput] at hx
    split at hx
    ·rename_i e1
     subst e1
     simp only [Option.some.injEq, Prod.mk.injEq] at hx
     obtain ⟨rfl, rfl⟩ := hx
     exact ⟨_, rowOf_spec hr⟩
    ·exact ⟨x, hx⟩⟩, fun u hu => ?_⟩
   cases hu with
   | own _ _ _ hv _ =>
    have hl : look (S.hput s g (.froz k' es)).heap s = some (g, .froz k' es) := by rw [look_hput, if_pos rfl]
    obtain ⟨u', hv', hrep⟩ := I'.heap s g _ hl
    rw [e'.val _ _ _ hv] at hv'
    simp only [Option.some.injEq] at hv'
    subst hv'
    exact hrep
  ·split at h
   ·rename_i k' es hf
    refine ⟨S, _, C, h, I, ⟨Ext.refl _ _, fun _ _ x h => ⟨x, h⟩⟩, fun u hu => ?_⟩
    cases hu with
    | own _ _ _ hv _ =>
     obtain ⟨u', hv', hrep⟩ := I.heap s g _ (frozOf_spec hf)
     rw [hv] at hv'
     simp only [Option.some.injEq] at hv'
     subst hv'
     exact hrep
   ·exact h.elim
 | _ => exact same h
theorem frz1_one {S : St} {c : D} {k : St → D → Prop} (hc : oneD c = true) (h : frz1 S c k) : frz1 S c fun S' c' => oneD c' = true ∧ k S' c' := by
 cases c with
 | own s g =>
  unfold frz1 at h ⊢
  simp only at h ⊢
  cases hr : rowOf S s g with
  | some x =>
   obtain ⟨e, k', es⟩ := x
   rw [hr] at h
   exact ⟨rfl, h⟩
  | none =>
   rw [hr] at h
   simp only at h ⊢
   cases hf : frozOf S s g with
   | some x =>
    obtain ⟨k', es⟩ := x
    rw [hf] at h
    exact ⟨rfl, h⟩
   | none => rw [hf] at h; exact h.elim
 | _ => exact ⟨hc, h⟩
theorem frzK_ok : ∀ {cs : List D} {S : St} {C : Ctx} (_ : Inv w0 B C0 n S C a w) {k : St → List D → Prop}, (∀ c ∈ cs, oneD c = true) → frzK S cs k →
  ∃ S' cs' C', k S' cs' ∧ Inv w0 B C0 n S' C' a w ∧ (Ext C w C' w ∧ ∀ s g x, look S'.heap s = some (g, x) → ∃ x0, look S.heap s = some (g, x0)) ∧ cs'.length = cs.length ∧ (∀ c ∈ cs', oneD c = true) ∧
   ∀ us : List Value, (∀ (j : Nat) c u, cs[j]? = some c → us[j]? = some u → Rep C w c u) → ∀ (j : Nat) c u, cs'[j]? = some c → us[j]? = some u → Rep C' w c u := by
 intro cs
 induction cs with
 | nil => intro S C I k _ h; exact ⟨S, [], C, h, I, ⟨Ext.refl _ _, fun _ _ x h => ⟨x, h⟩⟩, rfl, fun _ h => absurd h (by simp), fun us _ j c u hc _ => by simp at hc⟩
 | cons c cs ih =>
  intro S C I k h1 h
  obtain ⟨S1, c1, C1, hk1, I1, ⟨e1, t1⟩, hr1⟩ := frz1_ok I (frz1_one (h1 c (by simp)) h)
  obtain ⟨S2, cs2, C2, hk2, I2, ⟨e2, t2⟩, hl2, ho2, hr2⟩ := ih I1 (fun c hc => h1 c (by simp [hc])) hk1.2
  refine ⟨S2, c1 :: cs2, C2, hk2, I2, ⟨e1.trans e2, fun s g x h => (by obtain ⟨x1, h1⟩ := t2 s g x h; exact t1 s g x1 h1)⟩, by simp [hl2], fun d hd => ?_, fun us hus j d u hd hu => ?_⟩
  ·rcases List.mem_cons.1 hd with rfl | hd
   ·exact hk1.1
   ·exact ho2 d hd
  ·cases us with
   | nil => simp at hu
   | cons u0 us =>
    cases j with
    | zero =>
     simp at hd hu; subst hd; subst hu
     exact (hr1 _ (hus 0 c _ rfl rfl)).mono e2
    | succ j =>
     exact hr2 us (fun j c u hc hu => (hus (j + 1) c u (by simpa using hc) (by simpa using hu)).mono e1) j d u (by simpa using hd) (by simpa using hu)
theorem frzL_ok : ∀ {es : List (List D)} {S : St} {C : Ctx} (_ : Inv w0 B C0 n S C a w) {k : St → List (List D) → Prop}, (∀ e ∈ es, ∀ c ∈ e, oneD c = true) → frzL S es k →
  ∃ S' es' C', k S' es' ∧ Inv w0 B C0 n S' C' a w ∧ (Ext C w C' w ∧ ∀ s g x, look S'.heap s = some (g, x) → ∃ x0, look S.heap s = some (g, x0)) ∧ es'.map List.length = es.map List.length ∧ (∀ e ∈ es', ∀ c ∈ e, oneD c = true) ∧
   ∀ us : List (List Value), (∀ (i j : Nat) e c us' u, es[i]? = some e → e[j]? = some c → us[i]? = some us' → us'[j]? = some u → Rep C w c u) →
    ∀ (i j : Nat) e c us' u, es'[i]? = some e → e[j]? = some c → us[i]? = some us' → us'[j]? = some u → Rep C' w c u := by
 intro es
 induction es with
 | nil => intro S C I k _ h; exact ⟨S, [], C, h, I, ⟨Ext.refl _ _, fun _ _ x h => ⟨x, h⟩⟩, rfl, fun _ h => absurd h (by simp), fun us _ i j e c us' u he _ _ _ => by simp at he⟩
 | cons e es ih =>
  intro S C I k h1 h
  obtain ⟨S1, e1', C1, hk1, I1, ⟨e1, t1⟩, hl1, ho1, hr1⟩ := frzK_ok I (h1 e (by simp)) h
  obtain ⟨S2, es2, C2, hk2, I2, ⟨e2, t2⟩, hl2, ho2, hr2⟩ := ih I1 (fun e he => h1 e (by simp [he])) hk1
  refine ⟨S2, e1' :: es2, C2, hk2, I2, ⟨e1.trans e2, fun s g x h => (by obtain ⟨x1, h1⟩ := t2 s g x h; exact t1 s g x1 h1)⟩, by simp [hl1, hl2], fun d hd => ?_, fun us hus i j d c us' u hd hc hu' hu => ?_⟩
  ·rcases List.mem_cons.1 hd with rfl | hd
   ·exact ho1
   ·exact ho2 d hd
  ·cases us with
   | nil => simp at hu'
   | cons u0 us =>
    cases i with
    | zero =>
     simp at hd hu'; subst hd; subst hu'
     exact (hr1 _ (fun j c u hc hu => hus 0 j e c _ u rfl hc rfl hu) j c u hc hu).mono e2
    | succ i =>
     exact hr2 us (fun i j e c us' u he hc hu' hu => (hus (i + 1) j e c us' u (by simpa using he) hc (by simpa using hu') hu).mono e1) i j d c us' u (by simpa using hd) hc (by simpa using hu') hu
end
def NextT (w0 : World) (B : Nat → Nat → Prop) (C0 : Ctx) (n : Nat) (K : St → Prop) (S : St) (C : Ctx) (w : World) (t : Nat) : Act → World → Prop :=
 fun a w' => ∃ S' C', K S' ∧ Inv w0 B C0 n S' C' a w' ∧ Same w w' ∧ Trk S C w S' C' ∧ NewAt w S' C' t
def NextOk (w0 : World) (B : Nat → Nat → Prop) (C0 : Ctx) (n : Nat) (K : St → Prop) : Act → World → Prop := fun a w => ∃ S C, K S ∧ Inv w0 B C0 n S C a w
def dstOk (n : Nat) (dst : Option Nat) : Prop := match dst with | some t => t < n | none => True
theorem dstOk_spec {n : Nat} {dst : Option Nat} (h : dstOk n dst) : ∀ t, dst = some t → t < n := by rintro t rfl; exact h
section
variable {w0 : World} {B : Nat → Nat → Prop} {C0 : Ctx} {n : Nat} {S : St} {C : Ctx} {a : Act} {w : World}
theorem wp_val {o : Oper} {u : Value} {w' : World} {N : Act → World → Prop} {Q : Exit → Act → World → Prop} (hr : (execOp a.eval o).run P w = .ok (.value u) w') (h : N (a.put o.dst u) w') : o.wp P a w N Q := by
 unfold Oper.wp; rw [hr]; exact h
theorem wp_skp {o : Oper} {w' : World} {N : Act → World → Prop} {Q : Exit → Act → World → Prop} (hr : (execOp a.eval o).run P w = .ok .skip w') (h : N (a.put o.dst undef) w') : o.wp P a w N Q := by
 unfold Oper.wp; rw [hr]; exact h
theorem quiet_step (I : Inv w0 B C0 n S C a w) {o : Oper} {K : St → Prop} (hd : dstOk n o.dst) (h : qK P true S o.op fun d => K (S.set o.dst d)) (Q : Exit → Act → World → Prop) : o.wp P a w (NextOk w0 B C0 n K) Q := by
 obtain ⟨d, hk, hr⟩ := q_ok I h
 obtain ⟨u, hu, hrun⟩ := hr rfl
 exact wp_val (hrun w (fun _ => Same.refl w)) ⟨_, C, hk, I.set (dstOk_spec hd) hu⟩
theorem Inv.newBox (I : Inv w0 B C0 n S C a w) {t ty : Nat} {cs : List D} {us : Array Value} (ht : t < n) (hc : Cells C w cs us.toList) (h1 : ∀ c ∈ cs, oneD c = true) :
  ∃ g C', Inv w0 B C0 n ((S.hput t g (.box cs)).put t (.ptr t g 0)) C' (a.put (some t) (.pointer (some ⟨w.heap.size, 0, none⟩))) (w.alloc (.cells us ty)) ∧
   Trk S C w ((S.hput t g (.box cs)).put t (.ptr t g 0)) C' ∧ NewAt w ((S.hput t g (.box cs)).put t (.ptr t g 0)) C' t := by
 obtain ⟨g, C', I', hv, e⟩ := I.new t (.box cs) (.pointer (some ⟨w.heap.size, 0, none⟩)) rfl (Pushed.alloc w (.cells us ty)) (fun C' g e hv hl =>
  ⟨w.heap.size, us, ty, hv, hl, heap_alloc_new w _, by rw [← hc.1]; simp, fun j c u hj hu => ⟨(hc.2 j c u hj (by simpa using hu)).mono e, (hc.2 j c u hj (by simpa using hu)).oneV (h1 c (List.mem_of_getElem? hj))⟩⟩)
 exact ⟨g, C', I'.put ht (.ptr t g 0 _ hv), Trk.new (I.trkSame (fun _ _ _ h => h) (fun _ _ x h => ⟨x, h⟩)) e.val (fun s g x h => hrep_val (I.heap s g x h)) hv rfl (Nat.le_refl _)⟩
theorem zeroOf_spec {t : TypeId} {zs : List Value} (h : zeroOf P t = some zs) : ∃ i z, P.info? t = some i ∧ i.zero = some z ∧ z.cells.toList = zs ∧ z.cells.size = i.size := by
 unfold zeroOf at h
 split at h
 ·rename_i i hi
  split at h
  ·rename_i z hz
   split at h
   ·rename_i hs
    simp only [Option.some.injEq] at h
    exact ⟨i, z, hi, hz, h, hs⟩
   ·cases h
  ·cases h
 ·cases h
theorem alloc_step (I : Inv w0 B C0 n S C a w) {o : Oper} {t : TypeId} {t' : Nat} {zs : List Value} {K : St → Prop} (ho : o.op = .alloc t) (hd : o.dst = some t') (ht : t' < n) (hz : zeroOf P t = some zs) (h1 : zs.all Value.oneCell' = true)
  (h : ∀ g, K ((S.hput t' g (.box (zs.map .v))).put t' (.ptr t' g 0))) (Q : Exit → Act → World → Prop) : o.wp P a w (NextT w0 B C0 n K S C w t') Q := by
 obtain ⟨i, z, hi, hz1, rfl, _⟩ := zeroOf_spec hz
 obtain ⟨g, C', I', q1, q2⟩ := I.newBox (ty := t) (us := z.cells) ht (Cells.vals (C := C) (w := w) z.cells.toList) (fun c hc => by
  rw [List.mem_map] at hc
  obtain ⟨x, hx, rfl⟩ := hc
  exact List.all_eq_true.1 h1 x hx)
 refine wp_val (u := .pointer (some ⟨w.heap.size, 0, none⟩)) (w' := w.alloc (.cells z.cells t)) ?_ ?_
 ·simp [execOp, ho, Instr.alloc, zeroValue, typeInfo, hi, hz1, newVar, newRow]
 ·rw [hd]; exact ⟨_, C', h g, I', Same.alloc _ _, q1, q2⟩
theorem box_step (I : Inv w0 B C0 n S C a w) {o : Oper} {t : TypeId} {x : Operand} {t' : Nat} {K : St → Prop} (ho : o.op = .box t x) (hd : o.dst = some t') (ht : t' < n)
  (h : evK true S x fun d => cellOk d = true ∧ (∀ c ∈ cellsOfD d, oneD c = true) ∧ ∀ g, K ((S.hput t' g (.box (cellsOfD d))).put t' (.ptr t' g 0))) (Q : Exit → Act → World → Prop) : o.wp P a w (NextT w0 B C0 n K S C w t') Q := by
 obtain ⟨d, ⟨h1, h2, h3⟩, hr⟩ := evK_ok I h
 have hc := Cells.of_rep h1 (hr rfl)
 obtain ⟨g, C', I', q1, q2⟩ := I.newBox (ty := t) (us := (a.eval x).cells) ht hc h2
 refine wp_val (u := .pointer (some ⟨w.heap.size, 0, none⟩)) (w' := w.alloc (.cells (a.eval x).cells t)) ?_ ?_
 ·simp [execOp, ho, Instr.box, newVar, newRow]
 ·rw [hd]; exact ⟨_, C', h3 g, I', Same.alloc _ _, q1, q2⟩
end
variable {P : Program}
theorem flatten_get {α : Type} {k : Nat} : ∀ {L : List (List α)}, (∀ l ∈ L, l.length = k) → ∀ (i j : Nat), j < k → L.flatten[i * k + j]? = (L[i]?).bind (·[j]?)
 | [], _, i, j, _ => by simp
 | l :: L, h, i, j, hj => by
  have hl : l.length = k := h l (by simp)
  rw [List.flatten_cons, List.getElem?_append]
  cases i with
  | zero => rw [if_pos (by omega)]; simp
  | succ i =>
   rw [if_neg (by rw [hl, Nat.add_mul]; omega), hl]
   have := flatten_get (L := L) (fun l hl => h l (by simp [hl])) i j hj
   rw [show (i + 1) * k + j - k = i * k + j from by rw [Nat.add_mul]; omega]
   simpa using this
theorem flatten_len {α : Type} {k : Nat} : ∀ {L : List (List α)}, (∀ l ∈ L, l.length = k) → L.flatten.length = L.length * k
 | [], _ => by simp
 | l :: L, h => by
  rw [List.flatten_cons, List.length_append, h l (by simp), flatten_len (fun l hl => h l (by simp [hl])), List.length_cons, Nat.add_mul]; omega
theorem fill_seq {size : Nat} : ∀ (us : List Value) (i0 : Nat) (arr : Array Value), (∀ u ∈ us, u.cells.size = size) → (i0 + us.length) * size ≤ arr.size →
  ∃ r, Instr.fill (fun i => some (i * size, size)) arr ((us.zipIdx i0).map fun p => (p.2, p.1)) = some r ∧
   r.toList = arr.toList.take (i0 * size) ++ ((us.map fun u => u.cells.toList).flatten ++ arr.toList.drop ((i0 + us.length) * size)) := by
 intro us
 induction us with
 | nil => intro i0 arr _ _; exact ⟨arr, rfl, by simp⟩
 | cons u us ih =>
  intro i0 arr h hle
  simp only [List.length_cons] at hle
  have hu : u.cells.size = size := h u (by simp)
  have h1 : i0 * size + u.cells.size ≤ arr.size := by
   rw [hu]
   calc i0 * size + size = (i0 + 1) * size := by rw [Nat.add_mul]; omega
    _ ≤ (i0 + (us.length + 1)) * size := Nat.mul_le_mul_right _ (by omega)
    _ ≤ arr.size := hle
  have hf := fold_set u.cells (i0 * size) arr h1
  generalize hA : u.cells.zipIdx.foldl (fun cs (x : Value × Nat) => cs.setIfInBounds (i0 * size + x.2) x.1) arr = arr1 at hf
  have hlen1 : arr1.size = arr.size := by
   have := congrArg List.length hf
   simp at this
   omega
  obtain ⟨r, hr, hr2⟩ := ih (i0 + 1) arr1 (fun v hv => h v (by simp [hv])) (by rw [hlen1, show i0 + 1 + us.length = i0 + (us.length + 1) from by omega]; exact hle)
  refine ⟨r, ?_, ?_⟩
  ·simp only [List.zipIdx_cons, List.map_cons, Instr.fill]
   have hcn : (decide (u.cells.size ≠ size) || decide (i0 * size + u.cells.size > arr.size)) = false := by simp; omega
   simp only [hcn]
   have : Array.foldl (fun cs x => cs.setIfInBounds (i0 * size + x.snd) x.fst) arr u.cells.zipIdx = arr1 := hA
   simp only [Bool.false_eq_true, if_false]
   rw [this]
   exact hr
  ·rw [hr2, hf]
   have e1 : (i0 + 1) * size = i0 * size + u.cells.toList.length := by rw [Nat.add_mul]; simp [hu]
   have e0 : (arr.toList.take (i0 * size)).length = i0 * size := by simp; omega
   rw [e1, ← List.append_assoc, ← List.append_assoc]
   rw [List.take_append_of_le_length (by simp [e0]), List.take_of_length_le (by simp; omega)]
   simp only [List.map_cons, List.flatten_cons, List.append_assoc]
   congr 2
   congr 1
   rw [← List.append_assoc, List.drop_append]
   have e2 : (arr.toList.take (i0 * size) ++ u.cells.toList).length = i0 * size + u.cells.toList.length := by simp [e0]
   have e3 : i0 * size + u.cells.toList.length ≤ (i0 + 1 + us.length) * size := by
    rw [← e1]; exact Nat.mul_le_mul_right _ (by omega)
   rw [List.drop_of_length_le (by rw [e2]; exact e3), e2, List.nil_append, List.drop_drop]
   rw [show i0 * size + u.cells.toList.length + ((i0 + 1 + us.length) * size - (i0 * size + u.cells.toList.length)) = (i0 + (us.length + 1)) * size from by
    rw [Nat.add_sub_cancel' e3]; congr 1; omega]
   simp
section
variable {w0 : World} {B : Nat → Nat → Prop} {C0 : Ctx} {n : Nat} {S : St} {C : Ctx} {a : Act} {w w1 : World} {o : Obj}
theorem Inv.newRow (I : Inv w0 B C0 n S C a w) {t e k cap : Nat} {es : List (List D)} {L : List (List Value)} {cur : Array Value} (ht : t < n) (hlen : L.length = es.length) (hL : ∀ l ∈ L, l.length = k) (hE : ∀ x ∈ es, x.length = k)
  (hcur : cur.toList.take (es.length * k) = L.flatten) (hsz : cur.size = cap * k) (hcap : es.length ≤ cap) (hmax : cap ≤ maxLen)
  (hr : ∀ (i j : Nat) e' c us u, es[i]? = some e' → e'[j]? = some c → L[i]? = some us → us[j]? = some u → Rep C w c u) (h1 : ∀ e' ∈ es, ∀ c ∈ e', oneD c = true) (hp : Pushed w (.cells cur e) w1) :
  ∃ g C', Inv w0 B C0 n ((S.hput t g (.row e k es)).put t (.own t g)) C' (a.put (some t) (.slice (some ⟨w.heap.size, 0, none⟩) es.length cap)) w1 ∧
   ∀ S0 C00, Trk S0 C00 w S C → Trk S0 C00 w ((S.hput t g (.row e k es)).put t (.own t g)) C' ∧ NewAt w ((S.hput t g (.row e k es)).put t (.own t g)) C' t := by
 obtain ⟨g, C', I', hv, e'⟩ := I.new t (.row e k es) (.slice (some ⟨w.heap.size, 0, none⟩) es.length cap) rfl hp (fun C' g ex hv hl => by
  have hown : w1.ownsRow 0 e k (.slice (some ⟨w.heap.size, 0, none⟩) es.length cap) es.length L.flatten := by
   refine ⟨by rw [flatten_len hL, hlen], .inr ⟨w.heap.size, cap, cur, rfl, Nat.zero_le _, hp.new, hcap, hmax, hsz, ?_⟩⟩
   exact hcur
  refine ⟨_, L.flatten, hv, hl, hown, hE, fun i j e' c x hi hj hx => ?_⟩
  have hjk : j < k := by rw [← hE _ (List.mem_of_getElem? hi)]; exact (List.getElem?_eq_some_iff.1 hj).1
  rw [flatten_get hL i j hjk] at hx
  cases hLi : L[i]? with
  | none => rw [hLi] at hx; cases hx
  | some us =>
   rw [hLi] at hx
   simp only [Option.bind_some] at hx
   have hrep := hr i j e' c us x hi hj hLi hx
   exact ⟨hrep.mono ex, hrep.oneV (h1 _ (List.mem_of_getElem? hi) _ (List.mem_of_getElem? hj))⟩)
 exact ⟨g, C', I'.put ht (.own t g _ hv rfl), fun S0 C00 h0 => Trk.new h0 e'.val (fun s g x h => hrep_val (I.heap s g x h)) hv rfl (Nat.le_refl _)⟩
theorem buildSlice_step (I : Inv w0 B C0 n S C a w) {o : Oper} {t e : TypeId} {len sz by' : Nat} {parts : Array (Nat × Operand)} {t' : Nat} {zs : List Value} {K : St → Prop} (ho : o.op = .buildSlice t len parts) (hd : o.dst = some t') (ht : t' < n)
  (hs : slOf P t = some (e, sz, by')) (hz : zeroOf P e = some zs) (hseq : parts.toList.map (·.1) = List.range len) (hbig : len * sz ≤ 16777216) (hpos : 0 < sz)
  (h : evsK true S (parts.toList.map (·.2)) fun ds => (∀ d ∈ ds, cellOk d = true ∧ (cellsOfD d).length = sz ∧ ∀ c ∈ cellsOfD d, oneD c = true) ∧ frzL S (ds.map cellsOfD) fun S' es => ∀ g, K ((S'.hput t' g (.row e sz es)).put t' (.own t' g)))
  (Q : Exit → Act → World → Prop) : o.wp P a w (NextT w0 B C0 n K S C w t') Q := by
 obtain ⟨ds, ⟨hds, hfr⟩, hlen, hr⟩ := evsK_ok I h
 obtain ⟨inf, h1, h2, h3, _⟩ := slOf_spec hs
 obtain ⟨inf', z, h2', hz1, rfl, hzs⟩ := zeroOf_spec hz
 rw [h2] at h2'
 simp only [Option.some.injEq] at h2'
 subst h2'
 subst h3
 have hplen : parts.toList.length = len := by have := congrArg List.length hseq; simpa using this
 have hdl : ds.length = len := by rw [hlen]; simp [← hplen]
 let us : List Value := parts.toList.map fun p => a.eval p.2
 have hul : us.length = len := by simp only [us, List.length_map]; exact hplen
 have hrep : ∀ (i : Nat) d u, ds[i]? = some d → us[i]? = some u → Rep C w d u := fun i d u hd hu => by
  simp only [us, List.getElem?_map] at hu
  cases hx : parts.toList[i]? with
  | none => rw [hx] at hu; cases hu
  | some p =>
   rw [hx] at hu
   simp only [Option.map_some, Option.some.injEq] at hu
   subst hu
   exact hr rfl i p.2 d (by rw [List.getElem?_map, hx]; rfl) hd
 have hcells : ∀ (i : Nat) d u, ds[i]? = some d → us[i]? = some u → Cells C w (cellsOfD d) u.cells.toList := fun i d u hd hu => Cells.of_rep (hds d (List.mem_of_getElem? hd)).1 (hrep i d u hd hu)
 have husz : ∀ u ∈ us, u.cells.size = inf.size := fun u hu => by
  obtain ⟨i, hi⟩ := List.mem_iff_getElem?.1 hu
  have hlt : i < ds.length := by rw [hdl, ← hul]; exact (List.getElem?_eq_some_iff.1 hi).1
  have hd : ds[i]? = some ds[i] := List.getElem?_eq_getElem hlt
  have := (hcells i _ u hd hi).1
  rw [(hds _ (List.getElem_mem hlt)).2.1] at this
  simpa using this
 obtain ⟨S', es, C', hK, I', ⟨ex, hst⟩, hlens, hone, hreps⟩ := frzL_ok I (es := ds.map cellsOfD) (fun e he c hc => by
  rw [List.mem_map] at he
  obtain ⟨d, hd, rfl⟩ := he
  exact (hds d hd).2.2 c hc) hfr
 have hel : es.length = len := by
  have := congrArg List.length hlens
  simp only [List.length_map] at this
  omega
 have hE : ∀ x ∈ es, x.length = inf.size := fun x hx => by
  have : x.length ∈ es.map List.length := List.mem_map_of_mem hx
  rw [hlens, List.map_map, List.mem_map] at this
  obtain ⟨d, hd, he⟩ := this
  rw [← he]
  exact (hds d hd).2.1
 let zarr : Array Value := (Array.range (len * inf.size)).map (z.cells[· % z.cells.size]!)
 have hzarr : zarr.size = len * inf.size := by simp [zarr]
 obtain ⟨r, hfill, hrl⟩ := fill_seq us 0 zarr husz (by rw [hzarr, Nat.zero_add, hul]; exact Nat.le_refl _)
 have hrl' : r.toList = (us.map fun u => u.cells.toList).flatten := by
  rw [hrl, Nat.zero_mul, List.take_zero, List.nil_append, Nat.zero_add, hul, List.drop_of_length_le (by simp [hzarr]), List.append_nil]
 have hparts : (parts.toList.map fun p => (p.1, a.eval p.2)) = (us.zipIdx 0).map fun p => (p.2, p.1) := by
  apply List.ext_getElem?
  intro i
  simp only [List.getElem?_map, List.getElem?_zipIdx, us, Option.map_map, Nat.zero_add]
  cases hx : parts.toList[i]? with
  | none => simp
  | some p =>
   have h4 : (parts.toList.map (·.1))[i]? = some p.1 := by rw [List.getElem?_map, hx]; rfl
   rw [hseq, List.getElem?_range] at h4
   ·simp only [Option.some.injEq] at h4
    subst h4
    simp
   ·have := (List.getElem?_eq_some_iff.1 hx).1; omega
 have hrun : (execOp a.eval o).run P w = .ok (.value (.slice (some ⟨w.heap.size, 0, none⟩) len len)) (w.alloc (.cells r e)) := by
  have hb : ¬ (len * inf.size > 2 ^ 24) := by omega
  have hf2 : Instr.fill (fun i => some (i * inf.size, inf.size)) zarr (parts.map fun x => (x.1, a.eval x.2)).toList = some r := by
   rw [← hfill]; congr 1
   simp only [Array.toList_map]
   exact hparts
  by_cases h0 : len * inf.size = 0
  ·have hz0 : zarr = (Array.range 0).map (fun x => (#[] : Array Value)[x % (#[] : Array Value).size]!) := by
    apply Array.ext
    ·simp [hzarr, h0]
    ·intro i h _; rw [hzarr, h0] at h; omega
   rw [hz0] at hf2
   simp [execOp, ho, Instr.buildSlice, run_underlying h1, run_sizeOf' h2, h0, Go.newRow] at hf2 ⊢
   rw [hf2]
   simp
  ·simp [execOp, ho, Instr.buildSlice, run_underlying h1, run_sizeOf' h2, hb, h0, Go.newRow, zeroValue, typeInfo, h2, hz1]
   have : Instr.fill (fun i => some (i * inf.size, inf.size)) ((Array.range (len * inf.size)).map fun x => z.cells[x % z.cells.size]!) (parts.toList.map fun x => (x.fst, a.eval x.snd)) = some r := by
    rw [← hf2]; simp [zarr]
   rw [this]
   simp
 obtain ⟨g, C2, I2, htr⟩ := I'.newRow (t := t') (e := e) (k := inf.size) (cap := len) (es := es) (L := us.map fun u => u.cells.toList) (cur := r) (w1 := w.alloc (.cells r e)) ht (by simp [hel, hul])
  (fun l hl => by rw [List.mem_map] at hl; obtain ⟨u, hu, rfl⟩ := hl; simpa using husz u hu) hE
  (by rw [hel, hrl', List.take_of_length_le]; rw [flatten_len (k := inf.size) (fun l hl => by rw [List.mem_map] at hl; obtain ⟨u, hu, rfl⟩ := hl; simpa using husz u hu)]; simp [hul])
  (by
   have := congrArg List.length hrl'
   rw [flatten_len (k := inf.size) (fun l hl => by rw [List.mem_map] at hl; obtain ⟨u, hu, rfl⟩ := hl; simpa using husz u hu)] at this
   simpa [hul] using this)
  (by omega) (by
   have : len ≤ len * inf.size := Nat.le_mul_of_pos_right _ hpos
   simp only [maxLen]; omega)
  (fun i j e' c us' u he hc hu' hu => hreps (us.map fun u => u.cells.toList) (fun i j e c us' u he hc hu' hu => by
   rw [List.getElem?_map] at he hu'
   cases hd : ds[i]? with
   | none => rw [hd] at he; cases he
   | some d =>
    cases hx : us[i]? with
    | none => rw [hx] at hu'; cases hu'
    | some x =>
     rw [hd] at he; rw [hx] at hu'
     simp only [Option.map_some, Option.some.injEq] at he hu'
     subst he hu'
     exact (hcells i d x hd hx).2 j c u hc hu) i j e' c us' u he hc hu' hu)
  hone (Pushed.alloc _ _)
 refine wp_val hrun ?_
 rw [hd]
 rw [hel] at I2
 obtain ⟨q1, q2⟩ := htr S C (I.trkSame ex.val hst)
 exact ⟨_, C2, hK g, I2, Same.alloc _ _, q1, q2⟩
end
variable {P : Program}
def srcOf (S : St) (sz : Nat) (d : D) : Option (List (List D)) :=
 match d with
 | .sl k es => if k = sz then some es else none
 | .v (.slice none 0 0) => some []
 | .own s g =>
  match rowOf S s g with
  | some (_, k, es) => if k = sz then some es else none
  | none =>
   match frozOf S s g with
   | some (k, es) => if k = sz then some es else none
   | none => none
 | _ => none
def putK (S : St) (d : D) (new : List D) (K : St → Prop) : Prop :=
 match d with
 | .ptr s g off =>
  match look S.heap s with
  | some (g', .box cs) => g' = g ∧ off + new.length ≤ cs.length ∧ K (S.hput s g (.box (putAt cs off new)))
  | _ => False
 | .elt s g k i off =>
  match rowOf S s g with
  | some (e, k', es) => k' = k ∧ match es[i]? with
   | some cs => off + new.length ≤ cs.length ∧ K (S.hput s g (.row e k (es.set i (putAt cs off new))))
   | none => False
  | none => False
 | _ => False
section
variable {w0 : World} {B : Nat → Nat → Prop} {C0 : Ctx} {n : Nat} {S : St} {C : Ctx} {a : Act} {w w1 : World} {o : Obj}
theorem make_step (I : Inv w0 B C0 n S C a w) {o : Oper} {t e : TypeId} {sz by' : Nat} {x y : Operand} {t' : Nat} {zs : List Value} {K : St → Prop} (ho : o.op = .makeSlice t x y) (hd : o.dst = some t') (ht : t' < n)
  (hs : slOf P t = some (e, sz, by')) (hz : zeroOf P e = some zs) (h1 : zs.all Value.oneCell' = true)
  (h : evK true S x fun dx => evK true S y fun dy => ∃ l c : Int, dx = .v (.int .i64 l) ∧ dy = .v (.int .i64 c) ∧ 0 ≤ l ∧ l ≤ c ∧ c * (by' + 1) ≤ 281474976710656 ∧
   ∀ g, K ((S.hput t' g (.row e sz (List.replicate l.toNat (zs.map .v)))).put t' (.own t' g))) (Q : Exit → Act → World → Prop) : o.wp P a w (NextT w0 B C0 n K S C w t') Q := by
 obtain ⟨inf, q1, q2, q3, q4⟩ := slOf_spec hs
 obtain ⟨inf', z, q2', hz1, rfl, hzs⟩ := zeroOf_spec hz
 rw [q2] at q2'
 simp only [Option.some.injEq] at q2'
 subst q2' q3 q4
 obtain ⟨dx, hx, hrx⟩ := evK_ok I h
 obtain ⟨dy, ⟨l, c, rfl, rfl, h0, hlc, hb, hK⟩, hry⟩ := evK_ok I hx
 have ex := (hrx rfl).v_inv
 have ey := (hry rfl).v_inv
 have hc1 : c ≤ 281474976710656 := by
  have hc0 : 0 ≤ c := by omega
  have : c * 1 ≤ c * ((inf.bytes : Int) + 1) := Int.mul_le_mul_of_nonneg_left (by omega) hc0
  omega
 have hb2 : (inf.bytes : Int) * c ≤ 281474976710656 := by
  have : (inf.bytes : Int) * c = c * (inf.bytes + 1) - c := by rw [Int.mul_add, Int.mul_comm]; omega
  omega
 have hrun := run_make (P := P) w t e inf z q1 q2 hz1 .i64 .i64 l c h0 hlc hb2 (by omega)
 have hmc : (madeCells z.cells (c.toNat * inf.size)).size = c.toNat * inf.size := size_madeCells _ _
 have hget : ∀ j, j < c.toNat * inf.size → (madeCells z.cells (c.toNat * inf.size))[j]? = some (z.cells[j % z.cells.size]!) := fun j hj => by
  simp [madeCells, hj]
 have htl : l.toNat ≤ c.toNat := by omega
 have htake : (madeCells z.cells (c.toNat * inf.size)).toList.take (l.toNat * inf.size) = (List.replicate l.toNat z.cells.toList).flatten := by
  apply List.ext_getElem?
  intro m
  rw [List.getElem?_take]
  have hfl : (List.replicate l.toNat z.cells.toList).flatten.length = l.toNat * inf.size := by
   rw [flatten_len (k := inf.size) (fun x hx => by rw [List.eq_of_mem_replicate hx]; simpa using hzs)]; simp
  by_cases hm : m < l.toNat * inf.size
  ·rw [if_pos hm]
   have hpos : 0 < inf.size := by
    rcases Nat.eq_zero_or_pos inf.size with h | h
    ·rw [h] at hm; omega
    ·exact h
   have hm2 : m < c.toNat * inf.size := Nat.lt_of_lt_of_le hm (Nat.mul_le_mul_right _ htl)
   have := hget m hm2
   rw [Array.getElem?_toList, this]
   have hdm : m / inf.size * inf.size + m % inf.size = m := by rw [Nat.mul_comm]; exact Nat.div_add_mod _ _
   have hmod : m % inf.size < inf.size := Nat.mod_lt _ hpos
   have hdv : m / inf.size < l.toNat := by rw [Nat.div_lt_iff_lt_mul hpos]; exact hm
   have := flatten_get (L := List.replicate l.toNat z.cells.toList) (k := inf.size) (fun x hx => by rw [List.eq_of_mem_replicate hx]; simpa using hzs) (m / inf.size) (m % inf.size) hmod
   rw [hdm] at this
   rw [this, List.getElem?_replicate, if_pos hdv]
   simp only [Option.bind_some, hzs]
   have hl2 : m % inf.size < z.cells.size := by rw [hzs]; exact hmod
   rw [getElem!_pos z.cells (m % inf.size) hl2]
   simp [hl2]
  ·rw [if_neg hm, List.getElem?_eq_none (by omega)]
 obtain ⟨g, C2, I2, htr⟩ := I.newRow (t := t') (e := e) (k := inf.size) (cap := c.toNat) (es := List.replicate l.toNat (z.cells.toList.map .v)) (L := List.replicate l.toNat z.cells.toList)
  (cur := madeCells z.cells (c.toNat * inf.size)) (w1 := w.alloc (.cells (madeCells z.cells (c.toNat * inf.size)) e)) ht (by simp)
  (fun x hx => by rw [List.eq_of_mem_replicate hx]; simpa using hzs) (fun x hx => by rw [List.eq_of_mem_replicate hx]; simpa using hzs)
  (by simpa using htake) hmc (by simpa using htl) (by simp only [maxLen]; omega)
  (fun i j e' c' us u he hc hu' hu => by
   have h1 := List.eq_of_mem_replicate (List.mem_of_getElem? he)
   have h2 := List.eq_of_mem_replicate (List.mem_of_getElem? hu')
   subst h1 h2
   rw [List.getElem?_map, hu] at hc
   simp only [Option.map_some, Option.some.injEq] at hc
   subst hc
   exact .v _)
  (fun e' he c hc => by
   rw [List.eq_of_mem_replicate he, List.mem_map] at hc
   obtain ⟨x, hx, rfl⟩ := hc
   exact List.all_eq_true.1 h1 x hx)
  (Pushed.alloc _ _)
 refine wp_val (u := .slice (some ⟨w.heap.size, 0, none⟩) l.toNat c.toNat) (w' := w.alloc (.cells (madeCells z.cells (c.toNat * inf.size)) e)) ?_ ?_
 ·simp [execOp, ho, ex, ey, hrun]
 ·rw [hd]
  simp only [List.length_replicate] at I2
  obtain ⟨q1, q2⟩ := htr S C (I.trkSame (fun _ _ _ h => h) (fun _ _ x h => ⟨x, h⟩))
  exact ⟨_, C2, hK g, I2, Same.alloc _ _, q1, q2⟩
theorem store_ok (I : Inv w0 B C0 n S C a w) {t : TypeId} {agg : Bool} {sz : Nat} (ht : tyOf P t = some (agg, sz)) {d dv : D} {u uv : Value} {K : St → Prop} (hu : Rep C w d u) (hv : Rep C w dv uv) (hok : cellOk dv = true)
  (hl : (cellsOfD dv).length = sz) (h1 : ∀ c ∈ cellsOfD dv, oneD c = true) (h : putK S d (cellsOfD dv) K) :
  ∃ S' C' w', K S' ∧ (Instr.storeAt t u uv).run P w = .ok () w' ∧ Inv w0 B C0 n S' C' a w' := by
 have hcv := Cells.of_rep hok hv
 have hsz : uv.cells.size = sz := by rw [← hl, ← hcv.1]; simp
 have hone : ∀ x ∈ uv.cells.toList, x.oneCell' = true := fun x hx => by
  obtain ⟨j, hj⟩ := List.mem_iff_getElem?.1 hx
  have hlt : j < (cellsOfD dv).length := by rw [← hcv.1]; exact (List.getElem?_eq_some_iff.1 hj).1
  have hc := List.getElem?_eq_getElem hlt
  exact (hcv.2 j _ x hc hj).oneV (h1 _ (List.getElem_mem hlt))
 have run : ∀ b off cur ty, w.heap[b]? = some (.cells cur ty (0, 0)) → off + uv.cells.size ≤ cur.size →
   (Instr.storeAt t (.pointer (some ⟨b, off, none⟩)) uv).run P w = .ok () (w.setRow b (cur.toList.take off ++ uv.cells.toList ++ cur.toList.drop (off + uv.cells.toList.length)).toArray) := fun b off cur ty hb hle => by
  have := run_storeCells_at P b off ty uv.cells.toList 0 cur w hb (by simpa using hle) hone
  simp only [Nat.add_zero] at this
  simp [Instr.storeAt, Instr.sureAddr, storeVar, run_sizeOf ht, hsz, this]
 cases d with
 | ptr s g off =>
  simp only [putK] at h
  split at h
  ·rename_i g' cs hlk
   obtain ⟨rfl, hle, hK⟩ := h
   cases hu with
   | ptr _ _ _ b hval =>
    obtain ⟨b', arr, ty, q1, q2, q3, q4, q5⟩ := I.heap s g' _ hlk
    rw [hval] at q1
    simp only [Option.some.injEq, Value.pointer.injEq, Addr.mk.injEq, and_true] at q1
    subst q1
    have hr := run b off arr ty q3 (by rw [hsz, ← hl, q4]; exact hle)
    have hcells : Cells C w cs arr.toList := ⟨by simp [q4], fun j c u hj hu => (q5 j c u hj (by simpa using hu)).1⟩
    have hone2 : ∀ x ∈ arr.toList, x.oneCell' = true := fun x hx => by
     obtain ⟨j, hj⟩ := List.mem_iff_getElem?.1 hx
     have hlt : j < cs.length := by rw [← q4]; have := (List.getElem?_eq_some_iff.1 hj).1; simpa using this
     exact (q5 j _ x (List.getElem?_eq_getElem hlt) (by simpa using hj)).2
    have hnew := Cells.putAt (o := off) hcells hcv hle
    let arr' : Array Value := (arr.toList.take off ++ uv.cells.toList ++ arr.toList.drop (off + uv.cells.toList.length)).toArray
    have hw := I.write (w' := w.setRow b arr') (x' := .box (putAt cs off (cellsOfD dv))) hlk hval q2 rfl (fun k hk => setRow_other w b k _ hk) (by simp [World.setRow]) rfl rfl rfl
     (fun e => ⟨b, arr', ty, hval, q2, setRow_heap w b arr arr' ty (0, 0) q3, by
      have := hnew.1
      simp only [arr', List.size_toArray]
      rw [List.append_assoc]
      exact this, fun j c u hj hu => by
      have hu' : (arr.toList.take off ++ (uv.cells.toList ++ arr.toList.drop (off + uv.cells.toList.length)))[j]? = some u := by
       simp only [arr'] at hu
       rw [List.append_assoc] at hu
       simpa using hu
      refine ⟨(hnew.2 j c u hj hu').mono e, ?_⟩
      rcases List.mem_append.1 (List.mem_of_getElem? hu') with h | h
      ·exact hone2 u (List.mem_of_mem_take h)
      ·rcases List.mem_append.1 h with h | h
       ·exact hone u h
       ·exact hone2 u (List.mem_of_mem_drop h)⟩)
    exact ⟨_, C, _, hK, hr, hw.1⟩
  ·exact h.elim
 | elt s g k i off =>
  simp only [putK] at h
  split at h
  ·rename_i e k' es hro
   obtain ⟨rfl, h⟩ := h
   split at h
   ·rename_i cs hi
    obtain ⟨hle, hK⟩ := h
    cases hu with
    | elt _ _ _ _ _ b m cp hval =>
     have hlk := rowOf_spec hro
     obtain ⟨u', xs, q1, q2, hown, hk, hall⟩ := I.heap s g _ hlk
     rw [hval] at q1
     simp only [Option.some.injEq] at q1
     subst q1
     rcases hown.2 with ⟨h0, _⟩ | ⟨gb, cap, cur, hvv, hz, hg, hnc, hcm, hcs, htake⟩
     ·cases h0
     ·simp only [Value.slice.injEq, Option.some.injEq, Addr.mk.injEq, and_true] at hvv
      obtain ⟨rfl, rfl, rfl⟩ := hvv
      have hil : i < es.length := (List.getElem?_eq_some_iff.1 hi).1
      have hcl : cs.length = k' := hk _ (List.mem_of_getElem? hi)
      have hik : i * k' + k' ≤ es.length * k' := by
       calc i * k' + k' = (i + 1) * k' := by rw [Nat.add_mul]; omega
        _ ≤ es.length * k' := Nat.mul_le_mul_right _ hil
      have hcap : es.length * k' ≤ cp * k' := Nat.mul_le_mul_right _ hnc
      have hle2 : i * k' + off + uv.cells.size ≤ cur.size := by rw [hsz, ← hl, hcs]; omega
      have hr := run b (i * k' + off) cur e hg hle2
      let news := cur.toList.take (i * k' + off) ++ uv.cells.toList ++ cur.toList.drop (i * k' + off + uv.cells.toList.length)
      let arr' : Array Value := news.toArray
      have hnl : news.length = cur.size := by simp [news]; omega
      have hnget : ∀ m, news[m]? = if i * k' + off ≤ m ∧ m < i * k' + off + uv.cells.size then uv.cells[m - (i * k' + off)]? else cur[m]? := fun m => by
       simp only [news, List.append_assoc]
       rw [List.getElem?_append]
       have e0 : (cur.toList.take (i * k' + off)).length = i * k' + off := by simp; omega
       rw [e0]
       by_cases hm : m < i * k' + off
       ·rw [if_pos hm, if_neg (by omega), List.getElem?_take, if_pos hm]; simp
       ·rw [if_neg hm, List.getElem?_append]
        by_cases hm2 : m - (i * k' + off) < uv.cells.toList.length
        ·rw [if_pos hm2, if_pos ⟨by omega, by simp at hm2; omega⟩]; simp
        ·rw [if_neg hm2, if_neg (by simp at hm2; omega), List.getElem?_drop]
         simp only [Array.length_toList] at hm2 ⊢
         rw [show i * k' + off + uv.cells.size + (m - (i * k' + off) - uv.cells.size) = m from by omega]
         simp
      have hnewlen : ∀ e' ∈ es.set i (putAt cs off (cellsOfD dv)), e'.length = k' := fun e' he => by
       rcases List.mem_or_eq_of_mem_set he with h | h
       ·exact hk e' h
       ·subst h; simp only [putAt, List.length_append, List.length_take, List.length_drop]; omega
      have hw := I.write (w' := w.setRow b arr') (x' := .row e k' (es.set i (putAt cs off (cellsOfD dv)))) hlk hval q2 rfl (fun k hk => setRow_other w b k _ hk) (by simp [World.setRow]) rfl rfl rfl
       (fun ex => ⟨_, news.take (es.length * k'), hval, q2, ⟨by simp [hnl]; omega, .inr ⟨b, cp, arr', by simp, hz, setRow_heap w b cur arr' e (0, 0) hg, by simpa using hnc, hcm, by simp [arr', hnl, hcs], by simp [arr']⟩⟩, hnewlen,
        fun i' j e' c x hi' hj hx => by
         have hi'l : i' < es.length := by have := (List.getElem?_eq_some_iff.1 hi').1; simpa using this
         have hjk : j < k' := by rw [← hnewlen e' (List.mem_of_getElem? hi')]; exact (List.getElem?_eq_some_iff.1 hj).1
         have hm : i' * k' + j < es.length * k' := by
          calc i' * k' + j < i' * k' + k' := by omega
           _ = (i' + 1) * k' := by rw [Nat.add_mul]; omega
           _ ≤ es.length * k' := Nat.mul_le_mul_right _ hi'l
         rw [List.getElem?_take, if_pos hm, hnget] at hx
         rw [List.getElem?_set] at hi'
         have oldx : ∀ e0 c0, es[i']? = some e0 → e0[j]? = some c0 → cur[i' * k' + j]? = some x → Rep C (w.setRow b arr') c0 x ∧ x.oneCell' = true := fun e0 c0 he0 hc0 hx0 => by
          have hxs : xs[i' * k' + j]? = some x := by rw [← htake, List.getElem?_take, if_pos hm]; simpa using hx0
          have := hall i' j e0 c0 x he0 hc0 hxs
          exact ⟨this.1.mono ex, this.2⟩
         by_cases hii : i = i'
         ·subst hii
          rw [if_pos rfl, if_pos hil] at hi'
          simp only [Option.some.injEq] at hi'
          subst hi'
          unfold putAt at hj
          have e0 : (cs.take off).length = off := by simp; omega
          rw [List.getElem?_append, e0] at hj
          by_cases hjo : j < off
          ·rw [if_pos hjo, List.getElem?_take, if_pos hjo] at hj
           rw [if_neg (by omega)] at hx
           exact oldx cs c hi hj hx
          ·rw [if_neg hjo, List.getElem?_append] at hj
           by_cases hj2 : j - off < (cellsOfD dv).length
           ·rw [if_pos hj2] at hj
            rw [if_pos ⟨by omega, by omega⟩, show i * k' + j - (i * k' + off) = j - off from by omega] at hx
            have hx' : uv.cells.toList[j - off]? = some x := by simpa using hx
            exact ⟨(hcv.2 _ c x hj hx').mono ex, hone x (List.mem_of_getElem? hx')⟩
           ·rw [if_neg hj2, List.getElem?_drop, show off + (cellsOfD dv).length + (j - off - (cellsOfD dv).length) = j from by omega] at hj
            rw [if_neg (by omega)] at hx
            exact oldx cs c hi hj hx
         ·rw [if_neg hii] at hi'
          have hfar : ¬ (i * k' + off ≤ i' * k' + j ∧ i' * k' + j < i * k' + off + uv.cells.size) := by
           rintro ⟨p1, p2⟩
           rcases Nat.lt_or_gt_of_ne hii with h | h
           ·have : (i + 1) * k' ≤ i' * k' := Nat.mul_le_mul_right _ h
            rw [Nat.add_mul] at this
            omega
           ·have : (i' + 1) * k' ≤ i * k' := Nat.mul_le_mul_right _ h
            rw [Nat.add_mul] at this
            omega
          rw [if_neg hfar] at hx
          exact oldx e' c hi' hj hx⟩)
      exact ⟨_, C, _, hK, hr, hw.1⟩
   ·exact h.elim
  ·exact h.elim
 | _ => exact h.elim
theorem src_ok (I : Inv w0 B C0 n S C a w) {sz : Nat} (hpos : 0 < sz) {d : D} {es : List (List D)} {u : Value} (h : srcOf S sz d = some es) (hr : Rep C w d u) (h1 : ∀ e ∈ es, ∀ c ∈ e, oneD c = true) :
  ∃ (ao : Option Addr) (cap : Nat), u = .slice ao es.length cap ∧ (∀ e ∈ es, e.length = sz) ∧
   (es ≠ [] → ∃ (ad : Addr) (news : List Value), ao = some ad ∧ news.length = es.length * sz ∧ (∀ (j : Nat) x, news[j]? = some x → w.cell? (ad.add j) = some x) ∧ (∀ x ∈ news, x.oneCell' = true) ∧
    ∀ (i j : Nat) e c x, es[i]? = some e → e[j]? = some c → news[i * sz + j]? = some x → Rep C w c x) := by
 have sl : ∀ es u, Rep C w (.sl sz es) u → (∀ e ∈ es, ∀ c ∈ e, oneD c = true) → ∃ (ao : Option Addr) (cap : Nat), u = .slice ao es.length cap ∧ (∀ e ∈ es, e.length = sz) ∧
   (es ≠ [] → ∃ (ad : Addr) (news : List Value), ao = some ad ∧ news.length = es.length * sz ∧ (∀ (j : Nat) x, news[j]? = some x → w.cell? (ad.add j) = some x) ∧ (∀ x ∈ news, x.oneCell' = true) ∧
    ∀ (i j : Nat) e c x, es[i]? = some e → e[j]? = some c → news[i * sz + j]? = some x → Rep C w c x) := fun es u hr h1 => by
  cases hr with
  | slE _ ao cap hm => exact ⟨ao, cap, rfl, fun _ h => absurd h (by simp), fun h => absurd rfl h⟩
  | sl _ _ b o cap us hl hm hk hc hh =>
   refine ⟨_, cap, rfl, hk, fun _ => ⟨⟨b, o, none⟩, (List.range (es.length * sz)).map fun m => us (m / sz) (m % sz), rfl, by simp, fun j x hx => ?_, fun x hx => ?_, fun i j e c x hi hj hx => ?_⟩⟩
   ·rw [List.getElem?_map] at hx
    by_cases hj : j < es.length * sz
    ·rw [List.getElem?_range hj] at hx
     simp only [Option.map_some, Option.some.injEq] at hx
     subst hx
     have hd : j / sz < es.length := by rw [Nat.div_lt_iff_lt_mul hpos]; exact hj
     have hm' : j % sz < sz := Nat.mod_lt _ hpos
     have he := List.getElem?_eq_getElem hd
     have hlen : (es[j / sz]).length = sz := hk _ (List.getElem_mem hd)
     have hc' := List.getElem?_eq_getElem (l := es[j / sz]) (i := j % sz) (by rw [hlen]; exact hm')
     have := (hc _ _ _ _ he hc').2
     rw [Addr.add_lit]
     rwa [show o + (j / sz * sz + j % sz) = o + j from by rw [Nat.mul_comm, Nat.div_add_mod]] at this
    ·rw [List.getElem?_eq_none (by simp; omega)] at hx
     cases hx
   ·rw [List.mem_map] at hx
    obtain ⟨m, hm', rfl⟩ := hx
    have hj : m < es.length * sz := by simpa using hm'
    have hd : m / sz < es.length := by rw [Nat.div_lt_iff_lt_mul hpos]; exact hj
    have hm2 : m % sz < sz := Nat.mod_lt _ hpos
    have he := List.getElem?_eq_getElem hd
    have hlen : (es[m / sz]).length = sz := hk _ (List.getElem_mem hd)
    have hc' := List.getElem?_eq_getElem (l := es[m / sz]) (i := m % sz) (by rw [hlen]; exact hm2)
    exact (hh _ _ _ _ he hc').oneV (h1 _ (List.getElem_mem hd) _ (List.getElem_mem _))
   ·have hlen : e.length = sz := hk _ (List.mem_of_getElem? hi)
    have hj2 : j < sz := by rw [← hlen]; exact (List.getElem?_eq_some_iff.1 hj).1
    have hi2 : i < es.length := (List.getElem?_eq_some_iff.1 hi).1
    have hm' : i * sz + j < es.length * sz := by
     calc i * sz + j < i * sz + sz := by omega
      _ = (i + 1) * sz := by rw [Nat.add_mul]; omega
      _ ≤ es.length * sz := Nat.mul_le_mul_right _ hi2
    rw [List.getElem?_map, List.getElem?_range hm'] at hx
    simp only [Option.map_some, Option.some.injEq] at hx
    have e1 : (i * sz + j) / sz = i := by rw [Nat.mul_comm, Nat.mul_add_div hpos, Nat.div_eq_of_lt hj2]; rfl
    have e2 : (i * sz + j) % sz = j := by rw [Nat.mul_comm, Nat.mul_add_mod, Nat.mod_eq_of_lt hj2]
    rw [e1, e2] at hx
    subst hx
    exact hh _ _ _ _ hi hj
 cases d with
 | sl k es' =>
  simp only [srcOf] at h
  split at h
  ·rename_i hk
   subst hk
   simp only [Option.some.injEq] at h
   subst h
   exact sl _ _ hr h1
  ·cases h
 | v x =>
  unfold srcOf at h
  split at h <;> try (rename_i heq; cases heq)
  ·simp only [Option.some.injEq] at h
   subst h
   obtain rfl := hr.v_inv
   exact ⟨_, _, rfl, fun _ h => absurd h (by simp), fun h => absurd rfl h⟩
  ·cases h
 | own s g =>
  simp only [srcOf] at h
  split at h
  ·rename_i e k es' hro
   split at h
   ·rename_i hk
    subst hk
    simp only [Option.some.injEq] at h
    subst h
    obtain ⟨u', xs, hv, hl, hown, hk, hall⟩ := I.heap s g _ (rowOf_spec hro)
    cases hr with
    | own _ _ _ hv' _ =>
     rw [hv] at hv'
     simp only [Option.some.injEq] at hv'
     subst hv'
     obtain ⟨ao, cap, rfl, _⟩ := ownsRow_slice hown
     refine ⟨ao, cap, rfl, hk, fun hne => ?_⟩
     have hpos' : 0 < es'.length := List.length_pos_iff.2 hne
     obtain ⟨b, cap', hbe⟩ := ownsRow_val hown hpos'
     simp only [Value.slice.injEq] at hbe
     obtain ⟨rfl, _, _⟩ := hbe
     refine ⟨_, xs, rfl, hown.1, hown.cells (g := b) rfl, fun x hx => ?_, fun i j e c x hi hj hx => (hall i j e c x hi hj hx).1⟩
     obtain ⟨m, hm⟩ := List.mem_iff_getElem?.1 hx
     have hml : m < es'.length * k := by rw [← hown.1]; exact (List.getElem?_eq_some_iff.1 hm).1
     have hd : m / k < es'.length := by rw [Nat.div_lt_iff_lt_mul hpos]; exact hml
     have hm2 : m % k < k := Nat.mod_lt _ hpos
     have he := List.getElem?_eq_getElem hd
     have hlen : (es'[m / k]).length = k := hk _ (List.getElem_mem hd)
     have hc' := List.getElem?_eq_getElem (l := es'[m / k]) (i := m % k) (by rw [hlen]; exact hm2)
     have hdm : m / k * k + m % k = m := by rw [Nat.mul_comm]; exact Nat.div_add_mod _ _
     exact (hall _ _ _ _ x he hc' (by rw [hdm]; exact hm)).2
   ·cases h
  ·split at h
   ·rename_i k es' hf
    split at h
    ·rename_i hk
     subst hk
     simp only [Option.some.injEq] at h
     subst h
     obtain ⟨u', hv, hrep⟩ := I.heap s g _ (frozOf_spec hf)
     cases hr with
     | own _ _ _ hv' _ =>
      rw [hv] at hv'
      simp only [Option.some.injEq] at hv'
      subst hv'
      exact sl _ _ hrep h1
    ·cases h
   ·cases h
 | _ => simp [srcOf] at h
theorem append_cells {C' : Ctx} {w' : World} {sz : Nat} {es es2 : List (List D)} {xs news : List Value} (e : Ext C w C' w') (hx : xs.length = es.length * sz)
  (hk : ∀ e ∈ es, e.length = sz) (hk2 : ∀ e ∈ es2, e.length = sz)
  (h : ∀ (i j : Nat) e' c x, es[i]? = some e' → e'[j]? = some c → xs[i * sz + j]? = some x → Rep C w c x ∧ x.oneCell' = true)
  (h2 : ∀ (i j : Nat) e' c x, es2[i]? = some e' → e'[j]? = some c → news[i * sz + j]? = some x → Rep C w c x) (h3 : ∀ x ∈ news, x.oneCell' = true) :
  ∀ (i j : Nat) e' c x, (es ++ es2)[i]? = some e' → e'[j]? = some c → (xs ++ news)[i * sz + j]? = some x → Rep C' w' c x ∧ x.oneCell' = true := by
 intro i j e' c x hi hj hx'
 rw [List.getElem?_append] at hi
 split at hi
 ·rename_i hlt
  have hjk : j < sz := by rw [← hk _ (List.mem_of_getElem? hi)]; exact (List.getElem?_eq_some_iff.1 hj).1
  have hm : i * sz + j < xs.length := by
   rw [hx]
   calc i * sz + j < i * sz + sz := by omega
    _ = (i + 1) * sz := by rw [Nat.add_mul]; omega
    _ ≤ es.length * sz := Nat.mul_le_mul_right _ hlt
  rw [List.getElem?_append, if_pos hm] at hx'
  have := h i j e' c x hi hj hx'
  exact ⟨this.1.mono e, this.2⟩
 ·rename_i hge
  have hm : ¬ (i * sz + j < xs.length) := by
   rw [hx]
   have : es.length * sz ≤ i * sz := Nat.mul_le_mul_right _ (by omega)
   omega
  rw [List.getElem?_append, if_neg hm, hx, show i * sz + j - es.length * sz = (i - es.length) * sz + j from by
   rw [Nat.sub_mul]
   have : es.length * sz ≤ i * sz := Nat.mul_le_mul_right _ (by omega)
   omega] at hx'
  exact ⟨(h2 _ _ _ _ _ hi hj hx').mono e, h3 x (List.mem_of_getElem? hx')⟩
end
variable {P : Program}
def oneLL (es : List (List D)) : Bool := es.all fun x => x.all oneD
theorem oneLL_ok {es : List (List D)} (h : oneLL es = true) : ∀ x ∈ es, ∀ c ∈ x, oneD c = true := fun x hx c hc => List.all_eq_true.1 (List.all_eq_true.1 h x hx) c hc
theorem oneLL_map {α : Type} {f : α → List D} (l : List α) (h : ∀ a, (f a).all oneD = true) : oneLL (l.map f) = true := List.all_eq_true.2 fun x hx => by
 obtain ⟨a, _, rfl⟩ := List.mem_map.1 hx
 exact h a
theorem oneLL_nil : oneLL [] = true := rfl
theorem oneLL_cons (x : List D) (l : List (List D)) : oneLL (x :: l) = (x.all oneD && oneLL l) := rfl
theorem oneLL_take {l : List (List D)} (n : Nat) (h : oneLL l = true) : oneLL (l.take n) = true := List.all_eq_true.2 fun x hx => List.all_eq_true.1 h x (List.mem_of_mem_take hx)
theorem oneLL_drop {l : List (List D)} (n : Nat) (h : oneLL l = true) : oneLL (l.drop n) = true := List.all_eq_true.2 fun x hx => List.all_eq_true.1 h x (List.mem_of_mem_drop hx)
theorem oneLL_app (l m : List (List D)) : oneLL (l ++ m) = (oneLL l && oneLL m) := List.all_append
theorem oneLL_rep (n : Nat) (x : List D) (h : x.all oneD = true) : oneLL (List.replicate n x) = true := List.all_eq_true.2 fun y hy => by rw [List.eq_of_mem_replicate hy]; exact h
def appK (S : St) (e sz by' t' : Nat) (dx dy : D) (K : St → Prop) : Prop :=
 match srcOf S sz dy with
 | some es2 =>
  oneLL es2 = true ∧
  match dx with
  | .own s g =>
   match rowOf S s g with
   | some (e', k, es) => e' = e ∧ k = sz ∧ (es.length + es2.length) * (by' + 1) ≤ 140737488355328 ∧ ∀ g', K ((S.hput s g' (.row e sz (es ++ es2))).put t' (.own s g'))
   | none => False
  | .slc k es => k = sz ∧ oneLL es = true ∧ (es.length + es2.length) * (by' + 1) ≤ 140737488355328 ∧ K (S.put t' (.sl sz (es ++ es2)))
  | .v (.slice none 0 0) => es2.length * (by' + 1) ≤ 140737488355328 ∧ ∀ g', K ((S.hput t' g' (.row e sz es2)).put t' (.own t' g'))
  | _ => False
 | none => False
theorem evK_self {c : Bool} {S : St} {x : Operand} {k : D → Prop} (h : evK c S x k) : evK c S x fun d => k d ∧ evK c S x fun d' => d' = d := by
 cases x with
 | const v => exact ⟨h, rfl⟩
 | func f => exact ⟨h, rfl⟩
 | global g => exact h.elim
 | tmp t =>
  simp only [evK] at h ⊢
  cases hl : look S.slots t with
  | none => rw [hl] at h; exact h.elim
  | some d =>
   rw [hl] at h
   cases d with
   | when c' d => exact ⟨h.1, h.2, h.1, rfl⟩
   | _ => exact ⟨h, rfl⟩
section
variable {w0 : World} {B : Nat → Nat → Prop} {C0 : Ctx} {n : Nat} {S : St} {C : Ctx} {a : Act} {w w1 : World} {o : Obj}
theorem Inv.nameNil (I : Inv w0 B C0 n S C a w) (s e k : Nat) :
  ∃ g C', Inv w0 B C0 n (S.hput s g (.row e k [])) C' a w ∧ C'.val s g = some (.slice none 0 0) ∧ Ext C w C' w := by
 obtain ⟨N, hN⟩ := I.fresh s
 have hg := hN N (Nat.le_refl _)
 have hv : (C.add s N (.slice none 0 0)).val s N = some (.slice none 0 0) := by simp [Ctx.add]
 have hl : (C.add s N (.slice none 0 0)).live s N = true := by simp [Ctx.add]
 have old : ∀ s' g' x, (C.add s N (.slice none 0 0)).val s' g' = some x → (s' = s ∧ g' = N ∧ x = .slice none 0 0) ∨ (¬ (s' = s ∧ g' = N) ∧ C.val s' g' = some x) := fun s' g' x hx => by
  simp only [Ctx.add] at hx
  split at hx
  ·rename_i h; simp only [Option.some.injEq] at hx; exact .inl ⟨h.1, h.2, hx.symm⟩
  ·rename_i h; exact .inr ⟨h, hx⟩
 have oldl : ∀ s' g', ¬ (s' = s ∧ g' = N) → (C.add s N (.slice none 0 0)).live s' g' = C.live s' g' := fun s' g' h => by simp only [Ctx.add]; rw [if_neg h]
 have ext : Ext C w (C.add s N (.slice none 0 0)) w := by
  refine ⟨fun s' g' x hx => ?_, fun b hb ⟨s', g', u', h1, h2, h3⟩ => ?_, fun _ _ _ => rfl, Nat.le_refl _⟩
  ·simp only [Ctx.add]
   rw [if_neg]
   ·exact hx
   ·rintro ⟨rfl, rfl⟩; rw [hg] at hx; cases hx
  ·rcases old s' g' u' h1 with ⟨_, _, rfl⟩ | ⟨hn, h1'⟩
   ·cases h3
   ·rw [oldl _ _ hn] at h2
    exact ⟨s', g', u', h1', h2, h3⟩
 refine ⟨N, _, ⟨I.size, I.defers, fun k' d hk => ?_, fun s' g' b' hb' => ?_, fun s' g' b' x u' hx hl' hv' hb' => ?_, fun s1 g1 u1 s2 g2 u2 b' h1 h2 h3 h4 h5 h6 => ?_, fun s' g' u' b' h1 h2 h3 => ?_,
  fun s' => ?_, I.frame, fun s' g' x hx => ext.val _ _ _ (I.old _ _ _ hx), fun b' hb' ho => I.owned b' hb' (ext.owns b' (Nat.lt_of_lt_of_le hb' I.frame.size) ho), fun s' g' u' h1 h2 h4 => ?_, fun s' g' y z hy hz => by
   rw [look_hput] at hy
   split at hy
   ·rename_i es
    subst es
    simp only [Option.some.injEq, Prod.mk.injEq] at hy
    obtain ⟨rfl, rfl⟩ := hy
    have := I.old _ _ _ hz
    rw [hg] at this; cases this
   ·exact I.ents s' g' y z hy hz, fun s' g' x h1 h2 => ?_, I.bound0⟩, hv, ext⟩
 ·obtain ⟨x, hx, hr⟩ := I.slots k' d hk
  exact ⟨x, hx, hr.mono ext⟩
 ·rw [look_hput] at hb'
  split at hb'
  ·rename_i es
   subst es
   simp only [Option.some.injEq, Prod.mk.injEq] at hb'
   obtain ⟨rfl, rfl⟩ := hb'
   exact ⟨_, [], hv, hl, World.ownsRow_nil _ _ _ _, fun _ h => absurd h (by simp), fun i j e' c x hi _ _ => by simp at hi⟩
  ·refine (I.heap s' g' b' hb').keep ext (fun h => ?_) (fun _ _ _ _ _ => rfl)
   by_cases hs : s' = s ∧ g' = N
   ·simp [Ctx.add, hs]
   ·rw [oldl _ _ hs]; exact h
 ·rw [look_hput] at hx
  rcases old s' g' u' hv' with ⟨_, _, rfl⟩ | ⟨hn, hv2⟩
  ·cases hb'
  ·rw [oldl _ _ hn] at hl'
   split at hx
   ·rename_i es
    subst es
    simp only [Option.some.injEq, Prod.mk.injEq] at hx
    obtain ⟨rfl, rfl⟩ := hx
    exact absurd ⟨rfl, rfl⟩ hn
   ·exact I.mine s' g' b' x u' hx hl' hv2 hb'
 ·rcases old s1 g1 u1 h1 with ⟨_, _, rfl⟩ | ⟨hn1, hv1⟩
  ·cases h5
  ·rw [oldl _ _ hn1] at h2
   rcases old s2 g2 u2 h3 with ⟨_, _, rfl⟩ | ⟨hn2, hv2⟩
   ·cases h6
   ·rw [oldl _ _ hn2] at h4
    exact I.apart s1 g1 u1 s2 g2 u2 b' hv1 h2 hv2 h4 h5 h6
 ·rcases old s' g' u' h1 with ⟨_, _, rfl⟩ | ⟨hn, hv2⟩
  ·cases h3
  ·rw [oldl _ _ hn] at h2
   exact I.bound s' g' u' b' hv2 h2 h3
 ·obtain ⟨M, hM⟩ := I.fresh s'
  refine ⟨max M (N + 1), fun g' hg' => ?_⟩
  simp only [Ctx.add]
  rw [if_neg (by omega)]
  exact hM g' (by omega)
 ·have hx := I.kept s' g' u' h1 h2 h4
  by_cases hs : s' = s ∧ g' = N
  ·simp [Ctx.add, hs]
  ·rw [oldl _ _ hs]; exact hx
 ·by_cases hs : s' = s ∧ g' = N
  ·obtain ⟨rfl, rfl⟩ := hs
   have := I.old _ _ _ h1
   rw [hg] at this; cases this
  ·rw [oldl _ _ hs] at h2
   exact I.dead0 _ _ _ h1 h2
theorem Inv.nilRow (I : Inv w0 B C0 n S C a w) {t : Nat} (hl : look S.slots t = some (.v (.slice none 0 0))) (s e k : Nat) : ∃ g C', Inv w0 B C0 n ((S.hput s g (.row e k [])).put t (.own s g)) C' a w := by
 obtain ⟨g, C', I', hv, ext⟩ := I.nameNil s e k
 obtain ⟨u, hu, hr⟩ := I.slots t _ hl
 obtain rfl := hr.v_inv
 refine ⟨g, C', I'.size, I'.defers, fun k' d hk => ?_, I'.heap, I'.mine, I'.apart, I'.bound, I'.fresh, I'.frame, I'.old, I'.owned, I'.kept, I'.ents, I'.dead0, I'.bound0⟩
 simp only [St.put, look] at hk
 split at hk
 ·rename_i e
  subst e
  simp only [Option.some.injEq] at hk
  subst hk
  exact ⟨_, hu, .own _ _ _ hv rfl⟩
 ·exact I'.slots k' d hk
theorem app_own (I : Inv w0 B C0 n S C a w) {t ty e : TypeId} {sz by' : Nat} {zs : List Value} (hs : slOf P t = some (e, sz, by')) (hz : zeroOf P e = some zs) (hpos : 0 < sz) {s g : Nat} {es es2 : List (List D)} {u uy : Value}
  (hlk : look S.heap s = some (g, .row e sz es)) (hu : C.val s g = some u)
  (hsrc : ∃ (ao : Option Addr) (cap : Nat), uy = .slice ao es2.length cap ∧ (∀ e ∈ es2, e.length = sz) ∧
   (es2 ≠ [] → ∃ (ad : Addr) (news : List Value), ao = some ad ∧ news.length = es2.length * sz ∧ (∀ (j : Nat) x, news[j]? = some x → w.cell? (ad.add j) = some x) ∧ (∀ x ∈ news, x.oneCell' = true) ∧
    ∀ (i j : Nat) e c x, es2[i]? = some e → e[j]? = some c → news[i * sz + j]? = some x → Rep C w c x))
  (hb : (es.length + es2.length) * (by' + 1) ≤ 140737488355328) :
  ∃ v' w' g' C', (Builtin.append_ #[t, t] ty #[u, uy]).run P w = .ok v' w' ∧ C'.val s g' = some v' ∧ v'.oneCell' = true ∧ Inv w0 B C0 n (S.hput s g' (.row e sz (es ++ es2))) C' a w' ∧ w.grownBy w' u.ownBlock ∧ Ext C w C' w' ∧
   (∀ b, blk v' = some b → blk u = some b ∨ b = w.heap.size) := by
 obtain ⟨inf, q1, q2, q3, q4⟩ := slOf_spec hs
 obtain ⟨inf', z, q2', hz1, _, hzs⟩ := zeroOf_spec hz
 rw [q2] at q2'
 simp only [Option.some.injEq] at q2'
 subst q2' q3 q4
 obtain ⟨ao, cap, rfl, hk2, hsr⟩ := hsrc
 obtain ⟨u', xs, hv, hl, hown, hk, hall⟩ := I.heap s g _ hlk
 rw [hu] at hv
 simp only [Option.some.injEq] at hv
 subst hv
 have hnm : es.length + es2.length ≤ 140737488355328 := by
  have : (es.length + es2.length) * 1 ≤ (es.length + es2.length) * (inf.bytes + 1) := Nat.mul_le_mul_left _ (by omega)
  omega
 have hbytes : (es.length + es2.length) * inf.bytes ≤ 140737488355328 := by
  have : (es.length + es2.length) * inf.bytes ≤ (es.length + es2.length) * (inf.bytes + 1) := Nat.mul_le_mul_left _ (by omega)
  omega
 obtain ⟨ao', cap', hus, _⟩ := ownsRow_slice hown
 by_cases hne : es2 = []
 ·subst hne
  -- nothing is appended
  have hrun : (Builtin.append_ #[t, t] ty #[u, .slice ao ([] : List (List D)).length cap]).run P w = .ok u w := by
   subst hus
   rcases hown.2 with ⟨hnil, hn0⟩ | ⟨gb, cp, cur, hvv, _, hg, hnc, hcm, hcs, htake⟩
   ·simp only [Value.slice.injEq] at hnil
    obtain ⟨rfl, _, rfl⟩ := hnil
    have hlc : (loadCells · 0 : Addr → Sem (Array Value)) = fun _ => pure #[] := by funext x; simp [loadCells, loadCellsFrom]
    cases ao with
    | none => simp [Builtin.append_, run_underlying q1, run_sizeOf' q2, Builtin.lenOf, Builtin.firstCells, hn0]
    | some ad => simp [Builtin.append_, run_underlying q1, run_sizeOf' q2, Builtin.lenOf, Builtin.firstCells, hn0, loadCells, loadCellsFrom]
   ·simp only [Value.slice.injEq] at hvv
    obtain ⟨rfl, _, rfl⟩ := hvv
    cases ao with
    | none => simp [Builtin.append_, run_underlying q1, run_sizeOf' q2, Builtin.lenOf, Builtin.firstCells, hnc, storeCells]
    | some ad => simp [Builtin.append_, run_underlying q1, run_sizeOf' q2, Builtin.lenOf, Builtin.firstCells, hnc, loadCells, loadCellsFrom, storeCells]
  refine ⟨u, w, g, C, hrun, hu, by subst hus; rfl, ?_, ⟨rfl, rfl, rfl, Nat.le_refl _, fun _ _ _ => rfl⟩, Ext.refl _ _, fun b hb => .inl hb⟩
  rw [List.append_nil]
  refine ⟨I.size, I.defers, I.slots, fun s' g' b' hb' => ?_, fun s' g' b' x u' hx p1 p2 p3 => ?_, I.apart, I.bound, I.fresh, I.frame, I.old, I.owned, I.kept, fun s' g' y z hy hz => by
   rw [look_hput] at hy
   split at hy
   ·rename_i es
    subst es
    simp only [Option.some.injEq, Prod.mk.injEq] at hy
    obtain ⟨rfl, rfl⟩ := hy
    exact I.ents _ _ _ z hlk hz
   ·exact I.ents s' g' y z hy hz, I.dead0, I.bound0⟩
  ·rw [look_hput] at hb'
   split at hb'
   ·rename_i e1
    subst e1
    simp only [Option.some.injEq, Prod.mk.injEq] at hb'
    obtain ⟨rfl, rfl⟩ := hb'
    exact I.heap s g _ hlk
   ·exact I.heap s' g' b' hb'
  ·rw [look_hput] at hx
   split at hx
   ·rename_i e1
    subst e1
    simp only [Option.some.injEq, Prod.mk.injEq] at hx
    obtain ⟨rfl, rfl⟩ := hx
    exact I.mine s g b' _ u' hlk p1 p2 p3
   ·exact I.mine s' g' b' x u' hx p1 p2 p3
 ·obtain ⟨ad, news, rfl, hnl, hnews, hone, hrep⟩ := hsr hne
  obtain ⟨v', w', hrun, hown', hg, _, hat⟩ := run_append_own_at (P := P) w 0 t ty e inf z inf.size inf.bytes q1 q2 hz1 rfl rfl hzs hpos u es.length xs hown ad es2.length cap news hnl hnews hone
   (by simp only [maxLen]; omega) hbytes (Nat.zero_le _)
  obtain ⟨ao2, cap2, hvs, _⟩ := ownsRow_slice hown'
  obtain ⟨g', C', I', hv', e'⟩ := I.regrow (v' := v') (x' := .row e inf.size (es ++ es2)) hlk hu hl (blk_own hus) (blk_own hvs) hg hat (fun k hk' => (hown'.lt k hk').2) (fun C' g' ex hv hl =>
   ⟨v', xs ++ news, hv, hl, by rw [List.length_append]; exact hown', fun x hx => by
    rcases List.mem_append.1 hx with h | h
    ·exact hk x h
    ·exact hk2 x h, append_cells ex hown.1 hk hk2 hall hrep hone⟩)
  exact ⟨v', w', g', C', hrun, hv', by subst hvs; rfl, I', hg, e', fun b hb => by
   rw [blk_own hvs] at hb
   rw [blk_own hus]
   rcases hat with h | h
   ·exact .inl (h ▸ hb)
   ·rw [h] at hb; simp only [Option.some.injEq] at hb; exact .inr hb.symm⟩
theorem Inv.grewW (I : Inv w0 B C0 n S C a w) {w' : World} (e : Ext C w C w') (hf : Frm w (fun _ => False) w') : Inv w0 B C0 n S C a w' := by
 have hb : ∀ b, b < w.heap.size → w'.heap[b]? = w.heap[b]? := fun b hb => hf.block b hb id
 refine ⟨I.size, I.defers, fun k d hk' => ?_, fun s g b hb' => ?_, I.mine, I.apart, fun s g u b h1 h2 h3 => Nat.lt_of_lt_of_le (I.bound s g u b h1 h2 h3) hf.size, I.fresh,
  ⟨hf.os.trans I.frame.os, hf.tape.trans I.frame.tape, hf.output.trans I.frame.output, Nat.le_trans I.frame.size hf.size, fun b hb' hn => (hb b (Nat.lt_of_lt_of_le hb' I.frame.size)).trans (I.frame.block b hb' hn)⟩,
  I.old, I.owned, I.kept, I.ents, I.dead0, I.bound0⟩
 ·obtain ⟨u, hu, hr⟩ := I.slots k d hk'
  exact ⟨u, hu, hr.mono e⟩
 ·exact (I.heap s g b hb').keep e (fun h => h) (fun u k h1 h2 h3 => hb k (I.bound _ _ _ _ h1 h2 h3))
theorem app_clip (I : Inv w0 B C0 n S C a w) {t ty e : TypeId} {sz by' : Nat} {zs : List Value} (hs : slOf P t = some (e, sz, by')) (hz : zeroOf P e = some zs) (hpos : 0 < sz) {es es2 : List (List D)} {u uy : Value}
  (hr : Rep C w (.sl sz es) u) (hc : ∃ ao, u = .slice ao es.length es.length) (h1 : ∀ e ∈ es, ∀ c ∈ e, oneD c = true)
  (hsrc : ∃ (ao : Option Addr) (cap : Nat), uy = .slice ao es2.length cap ∧ (∀ e ∈ es2, e.length = sz) ∧
   (es2 ≠ [] → ∃ (ad : Addr) (news : List Value), ao = some ad ∧ news.length = es2.length * sz ∧ (∀ (j : Nat) x, news[j]? = some x → w.cell? (ad.add j) = some x) ∧ (∀ x ∈ news, x.oneCell' = true) ∧
    ∀ (i j : Nat) e c x, es2[i]? = some e → e[j]? = some c → news[i * sz + j]? = some x → Rep C w c x))
  (hb : (es.length + es2.length) * (by' + 1) ≤ 140737488355328) :
  ∃ v' w', (Builtin.append_ #[t, t] ty #[u, uy]).run P w = .ok v' w' ∧ Rep C w' (.sl sz (es ++ es2)) v' ∧ Ext C w C w' ∧ Frm w (fun _ => False) w' := by
 obtain ⟨inf, q1, q2, q3, q4⟩ := slOf_spec hs
 obtain ⟨inf', z, q2', hz1, _, hzs⟩ := zeroOf_spec hz
 rw [q2] at q2'
 simp only [Option.some.injEq] at q2'
 subst q2' q3 q4
 obtain ⟨ao, cap, rfl, hk2, hsr⟩ := hsrc
 have hso := src_ok (S := S) I hpos (d := .sl inf.size es) (by simp [srcOf]) hr h1
 obtain ⟨ao0, cap0, hu0, hk, hold⟩ := hso
 obtain ⟨ao1, hu1⟩ := hc
 have hnm : es.length + es2.length ≤ 140737488355328 := by
  have : (es.length + es2.length) * 1 ≤ (es.length + es2.length) * (inf.bytes + 1) := Nat.mul_le_mul_left _ (by omega)
  omega
 have hbytes : (es.length + es2.length) * inf.bytes ≤ 140737488355328 := by
  have : (es.length + es2.length) * inf.bytes ≤ (es.length + es2.length) * (inf.bytes + 1) := Nat.mul_le_mul_left _ (by omega)
  omega
 rw [hu1] at hu0
 simp only [Value.slice.injEq] at hu0
 obtain ⟨rfl, _, rfl⟩ := hu0
 subst hu1
 by_cases hne : es2 = []
 ·subst hne
  refine ⟨.slice ao1 es.length es.length, w, ?_, by rw [List.append_nil]; exact hr, Ext.refl _ _, Frm.refl _ _⟩
  cases ao with
  | none => cases ao1 <;> simp [Builtin.append_, run_underlying q1, run_sizeOf' q2, Builtin.lenOf, Builtin.firstCells, storeCells]
  | some ad => cases ao1 <;> simp [Builtin.append_, run_underlying q1, run_sizeOf' q2, Builtin.lenOf, Builtin.firstCells, loadCells, loadCellsFrom, storeCells]
 ·obtain ⟨ad, news, rfl, hnl, hnews, hone, hrep⟩ := hsr hne
  have hp2 : 0 < es2.length := List.length_pos_iff.2 hne
  obtain ⟨olds, hol, hocell, horep, hoone⟩ : ∃ olds : List Value, olds.length = es.length * inf.size ∧ (∀ b, ao1 = some b → ∀ (j : Nat) x, olds[j]? = some x → w.cell? (b.add j) = some x) ∧
    (∀ (i j : Nat) e c x, es[i]? = some e → e[j]? = some c → olds[i * inf.size + j]? = some x → Rep C w c x) ∧ ∀ x ∈ olds, x.oneCell' = true := by
   by_cases he : es = []
   ·subst he
    exact ⟨[], by simp, fun _ _ j x h => by simp at h, fun i j e c x h => by simp at h, fun x h => by simp at h⟩
   ·obtain ⟨ad0, olds, rfl, a1, a2, a3, a4⟩ := hold he
    exact ⟨olds, a1, fun b hb => by cases hb; exact a2, a4, a3⟩
  have hnil : ao1 = none → es = [] := fun h => by
   cases hes : es with
   | nil => rfl
   | cons _ _ =>
    obtain ⟨ad0, _, h', _⟩ := hold (by rw [hes]; simp)
    rw [h] at h'; cases h'
  obtain ⟨cp, hcp1, hcp2, hrun⟩ : ∃ cp, es.length + es2.length ≤ cp ∧ cp ≤ maxLen ∧ (Builtin.append_ #[t, t] ty #[.slice ao1 es.length es.length, .slice (some ad) es2.length cap]).run P w =
    .ok (.slice (some ⟨w.heap.size, 0, none⟩) (es.length + es2.length) cp) (w.drew.alloc (.cells (olds.toArray ++ news.toArray ++ Builtin.zeroCells z.cells (cp - (es.length + es2.length))) e)) := by
   cases ao1 with
   | none =>
    have := hnil rfl
    subst this
    have ho : olds = [] := List.eq_nil_of_length_eq_zero (by simpa using hol)
    subst ho
    have := run_append_nil (P := P) w t ty e inf z q1 q2 hz1 ad es2.length cap news hnl hnews hp2 (by omega) (by have := hbytes; simp only [List.length_nil, Nat.zero_add] at this; omega)
    refine ⟨grownCap w es2.length 0 e, ?_, grownCap_le_maxLen w _ _ e (by simp only [maxLen]; omega), ?_⟩
    ·simpa using grownCap_ge w es2.length 0 e
    ·simpa using this
   | some b =>
    have := run_append_grow (P := P) w t ty e inf z q1 q2 hz1 b es.length es.length olds hol (hocell b rfl) ad es2.length cap news hnl hnews (by omega) (by omega) (growslice_fits (by omega) hbytes)
    exact ⟨_, grownCap_ge w (es.length + es2.length) es.length e, grownCap_le_maxLen w _ _ e (by simp only [maxLen]; omega), this⟩
  have hno : ¬ C.owns w.heap.size := fun ⟨s, g, u, h1, h2, h3⟩ => Nat.lt_irrefl _ (I.bound s g u _ h1 h2 h3)
  generalize hcells : olds.toArray ++ news.toArray ++ Builtin.zeroCells z.cells (cp - (es.length + es2.length)) = cells at hrun
  have hold' : ∀ b, b < w.heap.size → (w.drew.alloc (.cells cells e)).heap[b]? = w.heap[b]? := fun b hb => heap_alloc_old w.drew _ hb
  have hnewb : (w.drew.alloc (.cells cells e)).heap[w.heap.size]? = some (.cells cells e (0, 0)) := heap_alloc_new w.drew _
  have ext : Ext C w C (w.drew.alloc (.cells cells e)) := ⟨fun _ _ _ h => h, fun _ _ h => h, fun b hb _ => hold' b hb, by simp⟩
  refine ⟨_, _, hrun, ?_, ext, ⟨rfl, rfl, rfl, by simp, fun b hb _ => hold' b hb⟩⟩
  have hlen : (es ++ es2).length = es.length + es2.length := by simp
  rw [← hlen]
  have hall := append_cells (w' := w.drew.alloc (.cells cells e)) ext hol hk hk2 (fun i j e' c x a1 a2 a3 => ⟨horep i j e' c x a1 a2 a3, hoone x (List.mem_of_getElem? a3)⟩) hrep hone
  refine .sl _ _ w.heap.size 0 cp (fun i j => ((olds ++ news)[i * inf.size + j]?).getD undef) (by rw [hlen]; exact hcp1) hcp2 (fun x hx => ?_) (fun i j e' c hi hj => ⟨hno, ?_⟩) (fun i j e' c hi hj => ?_)
  ·rcases List.mem_append.1 hx with h | h
   ·exact hk x h
   ·exact hk2 x h
  all_goals
   have hlt : i * inf.size + j < (olds ++ news).length := by
    have hjk : j < inf.size := by
     have : e'.length = inf.size := by
      rcases List.mem_append.1 (List.mem_of_getElem? hi) with h | h
      ·exact hk _ h
      ·exact hk2 _ h
     rw [← this]; exact (List.getElem?_eq_some_iff.1 hj).1
    have hi' : i < es.length + es2.length := by rw [← hlen]; exact (List.getElem?_eq_some_iff.1 hi).1
    rw [List.length_append, hol, hnl, ← Nat.add_mul]
    calc i * inf.size + j < i * inf.size + inf.size := by omega
     _ = (i + 1) * inf.size := by rw [Nat.add_mul]; omega
     _ ≤ (es.length + es2.length) * inf.size := Nat.mul_le_mul_right _ hi'
   have hget := List.getElem?_eq_getElem hlt
  ·rw [hget]
   simp only [Option.getD_some, Nat.zero_add]
   rw [show (w.drew.alloc (.cells cells e)).cell? ⟨w.heap.size, i * inf.size + j, none⟩ = cells[i * inf.size + j]? from World.cell?_alloc_at (w := w.drew) cells e w.heap.size _ rfl, ← hcells]
   have e1 : (olds.toArray ++ news.toArray ++ Builtin.zeroCells z.cells (cp - (es.length + es2.length)))[i * inf.size + j]? = (olds ++ news)[i * inf.size + j]? := by
    rw [← Array.getElem?_toList, Array.toList_append, Array.toList_append, List.getElem?_append_left (by simpa using hlt)]
   rw [e1, hget]
  ·rw [hget]
   exact (hall i j e' c _ hi hj hget).1
theorem append_step (I : Inv w0 B C0 n S C a w) {o : Oper} {t e : TypeId} {sz by' : Nat} {x y : Operand} {t' : Nat} {zs : List Value} {K : St → Prop} (ho : o.op = .call { callee := .builtin .append, args := #[x, y], argTypes := #[t, t] }) (hd : o.dst = some t') (ht : t' < n)
  (hs : slOf P t = some (e, sz, by')) (hz : zeroOf P e = some zs) (hpos : 0 < sz) (h : evK true S x fun dx => evK true S y fun dy => appK S e sz by' t' dx dy K) (Q : Exit → Act → World → Prop) :
  o.wp P a w (fun a' w' => ∃ S' C', K S' ∧ Inv w0 B C0 n S' C' a' w' ∧ (∀ we : World, (∀ b, blk (a.eval x) = some b → we.heap.size ≤ b) → Same we w → Same we w') ∧
   Trk S C w S' C' ∧ (a.eval x = .slice none 0 0 → (∀ s g, ¬ evK true S x fun d => d = .own s g) → (∀ k es, ¬ evK true S x fun d => d = .slc k es) → NewAt w S' C' t')) Q := by
 obtain ⟨dx, ⟨hx, hevx⟩, hrx⟩ := evK_ok I (evK_self h)
 obtain ⟨dy, hy, hry⟩ := evK_ok I hx
 have hrx := hrx rfl
 have hry := hry rfl
 have fin : ∀ v' w', (Builtin.append_ #[t, t] o.type #[a.eval x, a.eval y]).run P w = .ok v' w' → (execOp a.eval o).run P w = .ok (.value v') w' := fun v' w' hr => by
  simp [execOp, ho, resolve, invoke, builtin, hr]
 unfold appK at hy
 cases hsrc : srcOf S sz dy with
 | none => rw [hsrc] at hy; exact hy.elim
 | some es2 =>
  rw [hsrc] at hy
  obtain ⟨h1, hy⟩ := hy
  have h1 := oneLL_ok h1
  cases dx with
  | own s g =>
   simp only at hy
   cases hro : rowOf S s g with
   | none => rw [hro] at hy; exact hy.elim
   | some p =>
    obtain ⟨e', k, es⟩ := p
    rw [hro] at hy
    obtain ⟨rfl, rfl, hb, hK⟩ := hy
    generalize hX : a.eval x = ux at hrx fin
    cases hrx with
    | own _ _ _ hv _ =>
     obtain ⟨v', w', g', C', hrun, hv', ho1, I', hg, ext, hblk⟩ := app_own (ty := o.type) I hs hz hpos (rowOf_spec hro) hv (src_ok I hpos hsrc hry h1) hb
     refine wp_val (fin _ _ hrun) ?_
     rw [hd]
     refine ⟨_, C', hK g', I'.put ht (.own s g' _ hv' ho1), fun we hb hsm => ⟨Nat.le_trans hsm.1 hg.size, fun b hlt => ?_⟩, fun s' g'' x' u' b hx' hu' hb' => ?_, fun _ hno _ => absurd hevx (hno s g)⟩
     rotate_left
     ·have hx2 : look (S.hput s g' (.row e' k (es ++ es2))).heap s' = some (g'', x') := hx'
      rw [look_hput] at hx2
      split at hx2
      ·rename_i e1
       subst e1
       simp only [Option.some.injEq, Prod.mk.injEq] at hx2
       obtain ⟨rfl, rfl⟩ := hx2
       rw [hv'] at hu'
       simp only [Option.some.injEq] at hu'
       subst hu'
       rcases hblk b hb' with h | h
       ·exact .inr ⟨g, _, _, rowOf_spec hro, hv, h⟩
       ·exact .inl (by omega)
      ·obtain ⟨y, hy⟩ := hrep_val (I.heap s' g'' x' hx2)
       have := ext.val _ _ _ hy
       rw [hu'] at this
       simp only [Option.some.injEq] at this
       subst this
       exact .inr ⟨g'', x', u', hx2, hy, hb'⟩
     refine (hg.block b (Nat.lt_of_lt_of_le hlt hsm.1) (fun eb => ?_)).trans (hsm.2 b hlt)
     obtain ⟨_, xs, hv2, _, hown, _, _⟩ := I.heap s g _ (rowOf_spec hro)
     rw [hv] at hv2
     simp only [Option.some.injEq] at hv2
     obtain ⟨ao, cap, hus, _⟩ := ownsRow_slice hown
     rw [← hv2] at hus
     have := hb b (by rw [blk_own hus]; exact eb.symm)
     omega
  | v ux =>
   split at hy <;> try (rename_i heq; cases heq)
   ·obtain ⟨hb, hK⟩ := hy
    obtain ⟨ao, cap, huy, hk2, hsr⟩ := src_ok I hpos hsrc hry h1
    obtain ⟨g, C1, I1, hv, ex⟩ := I.nameNil t' e sz
    have hxe := hrx.v_inv
    rw [hxe] at fin
    have hlk : look (S.hput t' g (.row e sz [])).heap t' = some (g, .row e sz []) := by rw [look_hput, if_pos rfl]
    obtain ⟨v', w', g', C', hrun, hv', ho1, I', hg, ext, hblk⟩ := app_own (ty := o.type) I1 hs hz hpos hlk hv (uy := a.eval y) (es2 := es2)
     ⟨ao, cap, huy, hk2, fun hne => by
      obtain ⟨ad, news, p1, p2, p3, p4, p5⟩ := hsr hne
      exact ⟨ad, news, p1, p2, p3, p4, fun i j e c x q1 q2 q3 => (p5 i j e c x q1 q2 q3).mono ex⟩⟩ (by simpa using hb)
    refine wp_val (fin _ _ hrun) ?_
    rw [hd]
    have hnew : ∀ b, blk v' = some b → w.heap.size ≤ b := fun b hb' => by
     rcases hblk b hb' with h | h
     ·cases h
     ·omega
    have hput2 : ∀ s' g'' x', look ((S.hput t' g' (.row e sz es2)).put t' (.own t' g')).heap s' = some (g'', x') → (s' = t' ∧ g'' = g') ∨ (s' ≠ t' ∧ look S.heap s' = some (g'', x')) := fun s' g'' x' h => by
     have h2 : look (S.hput t' g' (.row e sz es2)).heap s' = some (g'', x') := h
     rw [look_hput] at h2
     split at h2
     ·rename_i e1; simp only [Option.some.injEq, Prod.mk.injEq] at h2; exact .inl ⟨e1.symm, h2.1.symm⟩
     ·rename_i e1; exact .inr ⟨fun h => e1 h.symm, h2⟩
    refine ⟨_, C', hK g', ?_, fun we _ hsm => ⟨Nat.le_trans hsm.1 hg.size, fun b hlt => (hg.block b (Nat.lt_of_lt_of_le hlt hsm.1) (by simp [Value.ownBlock])).trans (hsm.2 b hlt)⟩, fun s' g'' x' u' b hx' hu' hb' => ?_, fun _ _ _ g'' x' u' b hx' hu' hb' => ?_⟩
    rotate_left
    ·rcases hput2 s' g'' x' hx' with ⟨rfl, rfl⟩ | ⟨hne, h2⟩
     ·rw [hv'] at hu'
      simp only [Option.some.injEq] at hu'
      subst hu'
      exact .inl (hnew b hb')
     ·obtain ⟨y, hy⟩ := hrep_val (I.heap s' g'' x' h2)
      have := ext.val _ _ _ (ex.val _ _ _ hy)
      rw [hu'] at this
      simp only [Option.some.injEq] at this
      subst this
      exact .inr ⟨g'', x', u', h2, hy, hb'⟩
    ·rcases hput2 t' g'' x' hx' with ⟨_, rfl⟩ | ⟨hne, _⟩
     ·rw [hv'] at hu'
      simp only [Option.some.injEq] at hu'
      subst hu'
      exact hnew b hb'
     ·exact absurd rfl hne
    have I2 := I'.put ht (.own t' g' _ hv' ho1)
    refine ⟨I2.size, I2.defers, I2.slots, fun s' g'' b' hb' => ?_, fun s' g'' b' x u' hx p1 p2 p3 => ?_, I2.apart, I2.bound, I2.fresh, I2.frame, I2.old, I2.owned, I2.kept, fun s' g'' y z hy hz => by
     have : look ((S.hput t' g' (.row e sz es2)).put t' (.own t' g')).heap s' = look (((S.hput t' g (.row e sz [])).hput t' g' (.row e sz ([] ++ es2))).put t' (.own t' g')).heap s' := by
      simp only [St.put, St.hput, look, List.nil_append]
      split <;> rfl
     exact I2.ents s' g'' y z (this ▸ hy) hz, I2.dead0, I2.bound0⟩
    ·have : look ((S.hput t' g' (.row e sz es2)).put t' (.own t' g')).heap s' = look (((S.hput t' g (.row e sz [])).hput t' g' (.row e sz ([] ++ es2))).put t' (.own t' g')).heap s' := by
      simp only [St.put, St.hput, look, List.nil_append]
      split <;> rfl
     exact I2.heap s' g'' b' (this ▸ hb')
    ·have : look ((S.hput t' g' (.row e sz es2)).put t' (.own t' g')).heap s' = look (((S.hput t' g (.row e sz [])).hput t' g' (.row e sz ([] ++ es2))).put t' (.own t' g')).heap s' := by
      simp only [St.put, St.hput, look, List.nil_append]
      split <;> rfl
     exact I2.mine s' g'' b' x u' (this ▸ hx) p1 p2 p3
   ·exact hy.elim
  | slc k es =>
   obtain ⟨rfl, h1c, hb, hK⟩ := hy
   generalize hX : a.eval x = ux at hrx fin
   cases hrx with
   | slc _ _ _ hr hc =>
    obtain ⟨v', w', hrun, hrv, ext, hfr⟩ := app_clip (ty := o.type) I hs hz hpos hr hc (oneLL_ok h1c) (src_ok I hpos hsrc hry h1) hb
    refine wp_val (fin _ _ hrun) ?_
    rw [hd]
    have I' := I.grewW ext hfr
    exact ⟨_, C, hK, I'.put ht hrv, fun we _ hsm => ⟨Nat.le_trans hsm.1 hfr.size, fun b hlt => (hfr.block b (Nat.lt_of_lt_of_le hlt hsm.1) id).trans (hsm.2 b hlt)⟩, I.trkSame (fun _ _ _ h => h) (fun s g x h => ⟨x, h⟩), fun _ _ hno => absurd hevx (hno k es)⟩
  | _ => exact hy.elim
end
end Go.Eng
