/- Part of a proof: see the last text. -/
import Derived.Test.YtkgmecjaejaehaaGreatDoorG01
import Derived.Lib.ConvBytes
import Derived.Laws.IdiomStrings
import Derived.Laws.BytesString
import Derived.Laws.CopyRow
import Derived.Laws.IdiomCopy
set_option linter.unusedVariables false
set_option linter.unusedSimpArgs false
set_option linter.unusedSectionVars false
namespace Go.Eng
variable {P : Program}
structure CtxOk (C : Ctx) (w : World) : Prop where
 apart : ∀ s g u s' g' u' b, C.val s g = some u → C.live s g = true → C.val s' g' = some u' → C.live s' g' = true → blk u = some b → blk u' = some b → s = s' ∧ g = g'
 bound : ∀ s g u b, C.val s g = some u → C.live s g = true → blk u = some b → b < w.heap.size
 fresh : ∀ s, ∃ N, ∀ g, N ≤ g → C.val s g = none
class HasGlob (P : Program) where
 blocks : List Nat
 ok : World → Prop
 stab : ∀ w w' : World, (∀ b ∈ blocks, w'.heap[b]? = w.heap[b]?) → ok w → ok w'
def GlobOk (P : Program) [HasGlob P] (C : Ctx) (w : World) : Prop := HasGlob.ok P w ∧ ∀ b ∈ HasGlob.blocks P, ¬ C.owns b ∧ b < w.heap.size
theorem GlobOk.mono {P : Program} [HasGlob P] {C C' : Ctx} {w w' : World} (h : GlobOk P C w) (e : Ext C w C' w') : GlobOk P C' w' :=
 ⟨HasGlob.stab w w' (fun b hb => e.heap b (h.2 b hb).2 (h.2 b hb).1) h.1, fun b hb => ⟨fun q => (h.2 b hb).1 (e.owns b (h.2 b hb).2 q), Nat.lt_of_lt_of_le (h.2 b hb).2 e.size⟩⟩
structure Env (P : Program) [HasGlob P] (w0 : World) (B : Nat → Nat → Prop) (C0 : Ctx) : Prop where
 glob : GlobOk P C0 w0
 lent : ∀ s g, B s g → C0.live s g = true
theorem Env.now {P : Program} [HasGlob P] {w0 : World} {B : Nat → Nat → Prop} {C0 : Ctx} {n : Nat} {S : St} {C : Ctx} {a : Act} {w : World} (E : Env P w0 B C0) (I : Inv w0 B C0 n S C a w) : GlobOk P C w := by
 have hn : ∀ b ∈ HasGlob.blocks P, ¬ bB C0 B b := fun b hb ⟨s, g, u, q1, q2, q3⟩ => (E.glob.2 b hb).1 ⟨s, g, u, q2, E.lent s g q1, q3⟩
 exact ⟨HasGlob.stab w0 w (fun b hb => I.frame.block b (E.glob.2 b hb).2 (hn b hb)) E.glob.1, fun b hb => ⟨fun q => (E.glob.2 b hb).1 (I.owned b (E.glob.2 b hb).2 q), Nat.lt_of_lt_of_le (E.glob.2 b hb).2 I.frame.size⟩⟩
def RepL (C : Ctx) (w : World) (ds : List D) (us : List Value) : Prop := us.length = ds.length ∧ ∀ (j : Nat) d u, ds[j]? = some d → us[j]? = some u → Rep C w d u
class HasPan (P : Program) where
 pan : List PanicEntry → Prop
instance (priority := 100) noPan (P : Program) : HasPan P := ⟨fun _ => False⟩
def PanQ (P : Program) [HasPan P] (w0 : World) (B : Nat → Nat → Prop) (C0 : Ctx) (n : Nat) (Q : Exit → Act → World → Prop) : Prop :=
 ∀ ch C a w, HasPan.pan P ch → Inv w0 B C0 n ⟨[], []⟩ C a w → Q (.panic ch) a w
theorem panQ_no {P : Program} {w0 : World} {B : Nat → Nat → Prop} {C0 : Ctx} {n : Nat} {Q : Exit → Act → World → Prop} : @PanQ P (noPan P) w0 B C0 n Q := fun _ _ _ _ h => h.elim
def PanX (P : Program) [HasPan P] (w0 : World) (B : Nat → Nat → Prop) (C0 : Ctx) (n : Nat) (e : Exit) (a : Act) (w : World) : Prop :=
 ∃ ch C, e = .panic ch ∧ HasPan.pan P ch ∧ Inv w0 B C0 n ⟨[], []⟩ C a w
variable [HasGlob P]
def PCall (P : Program) [HasGlob P] (f : FuncId) (args : List D) (R : D → Prop) : Prop :=
 (∃ fn, P.funcs[f]? = some fn ∧ (fn.name == "runtime.NumGoroutine") = false ∧ fn.body.isNone = false) ∧
 ∀ (C : Ctx) (w : World) (us : List Value), CtxOk C w → GlobOk P C w → RepL C w args us →
  Calls P f us.toArray w fun e w' => ∃ u r C', e = .returned u ∧ R r ∧ Rep C' w' r u ∧ CtxOk C' w' ∧ Ext C w C' w' ∧ (∀ s g x, C.val s g = some x → C'.live s g = C.live s g) ∧ Frm w (fun _ => False) w'
theorem PCall.mono {f : FuncId} {args : List D} {R R' : D → Prop} (h : PCall P f args R) (hr : ∀ r, R r → R' r) : PCall P f args R' :=
 ⟨h.1, fun C w us hc hg hu => (h.2 C w us hc hg hu).mono fun _ _ ⟨u, r, C', h1, h2, h3⟩ => ⟨u, r, C', h1, hr r h2, h3⟩⟩
/-! own rows handed over as data -/
def viewC (S : St) (ty : Option Nat) (d : D) : D :=
 match d with
 | .own s g =>
  match rowOf S s g with
  | some (_, k, es) => .sl k es
  | none =>
   match frozOf S s g with
   | some (k, es) => .sl k es
   | none => d
 | .v (.slice none 0 0) =>
  match ty with
  | some k => .sl k []
  | none => d
 | d => d
def viewL (S : St) : List (Option Nat) → List D → List D
 | ty :: tys, c :: cs => viewC S ty c :: viewL S tys cs
 | [], c :: cs => viewC S none c :: viewL S [] cs
 | _, [] => []
def viewP (S : St) (d : D) : D :=
 match d with
 | .ptr s g off =>
  match look S.heap s with
  | some (g', .box cs) => if g' = g then .rd ((cs.drop off).map (viewC S none)) else .ptr s g off
  | _ => .ptr s g off
 | d => viewC S none d
def view (S : St) (tys : List (Option Nat)) (d : D) : D :=
 match d with
 | .agg cs => .agg (viewL S tys cs)
 | .fn f cs => .fn f (cs.map (viewP S))
 | .ptr s g off => viewP S (.ptr s g off)
 | d => viewC S (tys.head?.getD none) d
def hsC (S : St) (d : D) : List (Nat × Nat) :=
 match d with
 | .own s g => match rowOf S s g with
  | some _ => [(s, g)]
  | none => []
 | _ => []
def hsP (S : St) (d : D) : List (Nat × Nat) :=
 match d with
 | .ptr s g off =>
  match look S.heap s with
  | some (g', .box cs) => if g' = g then (s, g) :: (cs.drop off).flatMap (hsC S) else []
  | _ => []
 | d => hsC S d
def hs (S : St) (d : D) : List (Nat × Nat) :=
 match d with
 | .agg cs => cs.flatMap (hsC S)
 | .fn _ cs => cs.flatMap (hsP S)
 | .ptr s g off => hsP S (.ptr s g off)
 | d => hsC S d
def cellTysAux (P : Program) : Nat → TypeId → List (Option Nat)
 | 0, _ => []
 | d + 1, t =>
  match P.underlying t with
  | some (.slice e) => [some (P.cellsOf e)]
  | some (.struct fs) => fs.toList.flatMap fun f => cellTysAux P d f.type
  | some (.array n e) => (List.replicate n (cellTysAux P d e)).flatten
  | _ => [none]
def cellTys (P : Program) (t : TypeId) : List (Option Nat) := cellTysAux P 6 t
def viewsL (P : Program) (S : St) : List TypeId → List D → List D
 | t :: ts, d :: ds => view S (cellTys P t) d :: viewsL P S ts ds
 | [], ds => ds
 | _, [] => []
def CallK (P : Program) [HasGlob P] (f : FuncId) (args : List D) (hs : List (Nat × Nat)) (S : St) (k : St → D → Prop) : Prop :=
 ∀ {w0 : World} {B : Nat → Nat → Prop} {C0 : Ctx} {n : Nat} {C : Ctx} {a : Act} {w : World} (us : List Value), Env P w0 B C0 → Inv w0 B C0 n S C a w →
  (∀ C1, (∀ s g, C1.val s g = C.val s g) → (∀ s g, C1.live s g = if (s, g) ∈ hs then false else C.live s g) → RepL C1 w args us) →
  (∃ fn, P.funcs[f]? = some fn ∧ (fn.name == "runtime.NumGoroutine") = false ∧ fn.body.isNone = false) ∧
  Calls P f us.toArray w fun e w' => ∃ u r S' C', e = .returned u ∧ k S' r ∧ Rep C' w' r u ∧ Inv w0 B C0 n S' C' a w' ∧ Same w w' ∧ Trk S C w S' C'
section
variable {w0 : World} {B : Nat → Nat → Prop} {C0 : Ctx} {n : Nat} {S : St} {C : Ctx} {a : Act} {w w1 : World} {o : Obj}
def Ctx.hide (C : Ctx) (hs : List (Nat × Nat)) : Ctx := ⟨C.val, fun s g => if (s, g) ∈ hs then false else C.live s g⟩
theorem Inv.ctxOk (I : Inv w0 B C0 n S C a w) : CtxOk C w := ⟨I.apart, I.bound, I.fresh⟩
theorem CtxOk.hide (h : CtxOk C w) (hs : List (Nat × Nat)) : CtxOk (C.hide hs) w := by
 have lv : ∀ s g, (C.hide hs).live s g = true → C.live s g = true := fun s g h => by
  simp only [Ctx.hide] at h
  split at h
  ·cases h
  ·exact h
 exact ⟨fun s g u s' g' u' b h1 h2 h3 h4 h5 h6 => h.apart s g u s' g' u' b h1 (lv _ _ h2) h3 (lv _ _ h4) h5 h6, fun s g u b h1 h2 h3 => h.bound s g u b h1 (lv _ _ h2) h3, h.fresh⟩
theorem Ext.hide (C : Ctx) (w : World) (hs : List (Nat × Nat)) : Ext C w (C.hide hs) w := by
 refine ⟨fun _ _ _ h => h, fun b _ ⟨s, g, u, h1, h2, h3⟩ => ⟨s, g, u, h1, ?_, h3⟩, fun _ _ _ => rfl, Nat.le_refl _⟩
 simp only [Ctx.hide] at h2
 split at h2
 ·cases h2
 ·exact h2
def flat : D → Bool
 | .v _ => true
 | .agg cs => cs.all fun c => match c with | .v _ => true | _ => false
 | .tup cs => cs.all fun c => match c with
  | .v _ => true
  | .agg cs => cs.all fun c => match c with | .v _ => true | _ => false
  | _ => false
 | _ => false
theorem Rep.flat {C C' : Ctx} {w w' : World} {d : D} {u : Value} (hf : flat d = true) (h : Rep C w d u) : Rep C' w' d u := by
 have hv : ∀ {c : D} {u : Value}, (match c with | .v _ => true | _ => false) = true → Rep C w c u → Rep C' w' c u := fun {c u} hc hr => by
  cases c with
  | v x => obtain rfl := hr.v_inv; exact .v _
  | _ => cases hc
 have hag : ∀ {cs : List D} {u : Value}, (cs.all fun c => match c with | .v _ => true | _ => false) = true → Rep C w (.agg cs) u → Rep C' w' (.agg cs) u := fun {cs u} hc hr => by
  cases hr with
  | agg _ us hn hh => exact .agg _ _ hn fun j c u hj hu => hv (List.all_eq_true.1 hc c (List.mem_of_getElem? hj)) (hh j c u hj hu)
 cases d with
 | v x => obtain rfl := h.v_inv; exact .v _
 | agg cs => exact hag hf h
 | tup cs =>
  cases h with
  | tup _ us hn hh =>
   refine .tup _ _ hn fun j c u hj hu => ?_
   have hc := List.all_eq_true.1 hf c (List.mem_of_getElem? hj)
   have hr := hh j c u hj hu
   cases c with
   | v x => obtain rfl := hr.v_inv; exact .v _
   | agg cs => exact hag hc hr
   | _ => cases hc
 | _ => cases hf
theorem Inv.after (I : Inv w0 B C0 n S C a w) {C' : Ctx} {w' : World} (e : Ext C w C' w') (hk : CtxOk C' w') (hl : ∀ s g x, C.val s g = some x → C'.live s g = C.live s g) (hf : Frm w (fun _ => False) w') :
  Inv w0 B C0 n S C' a w' := by
 have hb : ∀ b, b < w.heap.size → w'.heap[b]? = w.heap[b]? := fun b hb => hf.block b hb id
 refine ⟨I.size, I.defers, fun k d hk' => ?_, fun s g b hb' => ?_, fun s g b x u hx h1 h2 h3 => ?_, hk.apart, hk.bound, hk.fresh,
  ⟨hf.os.trans I.frame.os, hf.tape.trans I.frame.tape, hf.output.trans I.frame.output, Nat.le_trans I.frame.size hf.size, fun b hb' hn => (hb b (Nat.lt_of_lt_of_le hb' I.frame.size)).trans (I.frame.block b hb' hn)⟩,
  fun s g x hx => e.val _ _ _ (I.old _ _ _ hx), fun b hb' ho => I.owned b hb' (e.owns b (Nat.lt_of_lt_of_le hb' I.frame.size) ho), fun s g u h1 h2 h4 => ?_, I.ents, fun s g x h1 h2 => ?_, I.bound0⟩
 ·obtain ⟨u, hu, hr⟩ := I.slots k d hk'
  exact ⟨u, hu, hr.mono e⟩
 ·have hH := I.heap s g b hb'
  have hval : ∃ x, C.val s g = some x := by
   cases b with
   | box cs => obtain ⟨_, _, _, h, _⟩ := hH; exact ⟨_, h⟩
   | row e k es => obtain ⟨_, _, h, _⟩ := hH; exact ⟨_, h⟩
   | froz k es => obtain ⟨_, h, _⟩ := hH; exact ⟨_, h⟩
   | map es => obtain ⟨_, _, _, h, _⟩ := hH; exact ⟨_, h⟩
   | bld t nr gr => obtain ⟨_, _, _, h, _⟩ := hH; exact ⟨_, h⟩
   | brow e l => obtain ⟨_, h, _⟩ := hH; exact ⟨_, h⟩
  obtain ⟨x, hx⟩ := hval
  exact hH.keep e (fun h => by rw [hl s g x hx]; exact h) (fun u k h1 h2 h3 => hb k (I.bound _ _ _ _ h1 h2 h3))
 ·have hH := I.heap s g x hx
  have hval : ∃ y, C.val s g = some y := by
   cases x with
   | box cs => obtain ⟨_, _, _, h, _⟩ := hH; exact ⟨_, h⟩
   | row e k es => obtain ⟨_, _, h, _⟩ := hH; exact ⟨_, h⟩
   | froz k es => obtain ⟨_, h, _⟩ := hH; exact ⟨_, h⟩
   | map es => obtain ⟨_, _, _, h, _⟩ := hH; exact ⟨_, h⟩
   | bld t nr gr => obtain ⟨_, _, _, h, _⟩ := hH; exact ⟨_, h⟩
   | brow e l => obtain ⟨_, h, _⟩ := hH; exact ⟨_, h⟩
  obtain ⟨y, hy⟩ := hval
  have : y = u := by have := e.val _ _ _ hy; rw [h2] at this; exact (Option.some.inj this).symm
  subst this
  exact I.mine s g b x y hx (by rw [hl s g y hy] at h1; exact h1) hy h3
 ·rw [hl s g u (I.old _ _ _ h1)]
  exact I.kept s g u h1 h2 h4
 ·rw [hl s g x (I.old _ _ _ h1)] at h2
  exact I.dead0 s g x h1 h2
theorem callK_flat {f : FuncId} {args : List D} {hs : List (Nat × Nat)} {R : D → Prop} {k : St → D → Prop} (h : PCall P f args R) (hR : ∀ r, R r → flat r = true ∧ k S r) : CallK P f args hs S k := by
 intro w0 B C0 n C a w us E I hrep
 refine ⟨h.1, ?_⟩
 have hc1 := I.ctxOk.hide hs
 refine (h.2 (C.hide hs) w us hc1 ((E.now I).mono (Ext.hide C w hs)) (hrep _ (fun _ _ => rfl) (fun _ _ => rfl))).mono ?_
 rintro e w' ⟨u, r, C', rfl, hr, hru, hok, ext, hlive, hfrm⟩
 obtain ⟨hfl, hkr⟩ := hR r hr
 -- the context with what was hidden shown again
 let C2 : Ctx := ⟨C'.val, fun s g => if (s, g) ∈ hs ∧ (C.val s g).isSome = true then C.live s g else C'.live s g⟩
 have lv : ∀ s g x, C.val s g = some x → C2.live s g = C.live s g := fun s g x hx => by
  simp only [C2]
  by_cases hm : (s, g) ∈ hs
  ·rw [if_pos ⟨hm, by simp [hx]⟩]
  ·rw [if_neg (fun h => hm h.1), hlive s g x hx]
   simp [Ctx.hide, hm]
 have lv2 : ∀ s g, C.val s g = none → C2.live s g = C'.live s g := fun s g hx => by
  simp only [C2]
  rw [if_neg (by simp [hx])]
 have ext2 : Ext C w C2 w' := by
  refine ⟨fun s g x hx => ext.val s g x hx, fun b hb ⟨s, g, u', h1, h2, h3⟩ => ?_, fun b hb hn => hfrm.block b hb id, ext.size⟩
  cases hx : C.val s g with
  | some x =>
   have : x = u' := by have := ext.val s g x hx; rw [h1] at this; exact (Option.some.inj this).symm
   subst this
   exact ⟨s, g, x, hx, by rw [← lv s g x hx]; exact h2, h3⟩
  | none =>
   rw [lv2 s g hx] at h2
   obtain ⟨s', g', u'', q1, q2, q3⟩ := ext.owns b hb ⟨s, g, u', h1, h2, h3⟩
   refine ⟨s', g', u'', q1, ?_, q3⟩
   simp only [Ctx.hide] at q2
   split at q2
   ·cases q2
   ·exact q2
 have newb : ∀ s g u' b, C'.val s g = some u' → C'.live s g = true → C.val s g = none → blk u' = some b → w.heap.size ≤ b := fun s g u' b h1 h2 h3 h4 => by
  rcases Nat.lt_or_ge b w.heap.size with hb | hb
  ·obtain ⟨s', g', u'', q1, q2, q3⟩ := ext.owns b hb ⟨s, g, u', h1, h2, h4⟩
   have := hok.apart s g u' s' g' u'' b h1 h2 (ext.val _ _ _ q1) (by rw [hlive _ _ _ q1]; exact q2) h4 q3
   obtain ⟨rfl, rfl⟩ := this
   have q1' : C.val s g = some u'' := q1
   rw [h3] at q1'; cases q1'
  ·exact hb
 have hok2 : CtxOk C2 w' := by
  refine ⟨fun s g u1 s' g' u2 b h1 h2 h3 h4 h5 h6 => ?_, fun s g u1 b h1 h2 h3 => ?_, hok.fresh⟩
  ·cases hx : C.val s g with
   | some x =>
    have e1 : x = u1 := by have := ext.val s g x hx; rw [h1] at this; exact (Option.some.inj this).symm
    subst e1
    rw [lv s g x hx] at h2
    cases hx' : C.val s' g' with
    | some x' =>
     have e2 : x' = u2 := by have := ext.val s' g' x' hx'; rw [h3] at this; exact (Option.some.inj this).symm
     subst e2
     rw [lv s' g' x' hx'] at h4
     exact I.apart s g x s' g' x' b hx h2 hx' h4 h5 h6
    | none =>
     rw [lv2 s' g' hx'] at h4
     have := newb s' g' u2 b h3 h4 hx' h6
     have := I.bound s g x b hx h2 h5
     omega
   | none =>
    rw [lv2 s g hx] at h2
    have n1 := newb s g u1 b h1 h2 hx h5
    cases hx' : C.val s' g' with
    | some x' =>
     have e2 : x' = u2 := by have := ext.val s' g' x' hx'; rw [h3] at this; exact (Option.some.inj this).symm
     subst e2
     rw [lv s' g' x' hx'] at h4
     have := I.bound s' g' x' b hx' h4 h6
     omega
    | none =>
     rw [lv2 s' g' hx'] at h4
     exact hok.apart s g u1 s' g' u2 b h1 h2 h3 h4 h5 h6
  ·cases hx : C.val s g with
   | some x =>
    have e1 : x = u1 := by have := ext.val s g x hx; rw [h1] at this; exact (Option.some.inj this).symm
    subst e1
    rw [lv s g x hx] at h2
    exact Nat.lt_of_lt_of_le (I.bound s g x b hx h2 h3) ext.size
   | none =>
    rw [lv2 s g hx] at h2
    exact hok.bound s g u1 b h1 h2 h3
 exact ⟨u, r, S, C2, rfl, hkr, hru.flat hfl, I.after ext2 hok2 lv hfrm, ⟨hfrm.size, fun b hb => hfrm.block b hb id⟩, I.trkSame ext2.val (fun _ _ x h => ⟨x, h⟩)⟩
theorem callK_mem {f : FuncId} {args : List D} {R : D → Prop} {k : St → D → Prop} (h : PCall P f args R) (hR : ∀ r, R r → k S r) : CallK P f args [] S k := by
 intro w0 B C0 n C a w us E I hrep
 refine ⟨h.1, ?_⟩
 refine (h.2 C w us I.ctxOk (E.now I) (hrep C (fun _ _ => rfl) (fun _ _ => by simp))).mono ?_
 rintro e w' ⟨u, r, C', rfl, hr, hru, hok, ext, hlive, hfrm⟩
 exact ⟨u, r, S, C', rfl, hR r hr, hru, I.after ext hok hlive hfrm, ⟨hfrm.size, fun b hb => hfrm.block b hb id⟩, I.trkSame ext.val (fun _ _ x h => ⟨x, h⟩)⟩
def frzHs (S : St) : List (Nat × Nat) → St
 | [] => S
 | (s, g) :: hs =>
  match rowOf S s g with
  | some (_, k, es) => frzHs (S.hput s g (.froz k es)) hs
  | none => frzHs S hs
theorem Inv.hideNil (C : Ctx) : C.hide [] = C := by simp [Ctx.hide]
theorem hide_cons (C : Ctx) (s g : Nat) (hs : List (Nat × Nat)) : C.hide ((s, g) :: hs) = (C.kill s g).hide hs := by
 unfold Ctx.hide Ctx.kill
 congr 1
 funext s' g'
 simp only [List.mem_cons, Prod.mk.injEq]
 by_cases h1 : s' = s ∧ g' = g <;> by_cases h2 : (s', g') ∈ hs <;> simp [h1, h2]
theorem rowOf_hput_ne {S : St} {s g s' g' : Nat} {b : Blk} (h : s ≠ s') : rowOf (S.hput s g b) s' g' = rowOf S s' g' := by
 unfold rowOf
 rw [look_hput, if_neg h]
theorem frzHs_ok : ∀ {hs : List (Nat × Nat)} {S : St} {C : Ctx}, Inv w0 B C0 n S C a w → (∀ p ∈ hs, (rowOf S p.1 p.2).isSome = true) → (hs.map (·.1)).Nodup →
  Inv w0 B C0 n (frzHs S hs) (C.hide hs) a w := by
 intro hs
 induction hs with
 | nil => intro S C I _ _; rw [Inv.hideNil]; exact I
 | cons p hs ih =>
  intro S C I h hn
  obtain ⟨s, g⟩ := p
  simp only [List.map_cons, List.nodup_cons] at hn
  have h0 := h (s, g) (by simp)
  obtain ⟨x, hx⟩ := Option.isSome_iff_exists.1 h0
  obtain ⟨e, k, es⟩ := x
  simp only at hx
  rw [hide_cons]
  unfold frzHs
  rw [hx]
  refine ih (I.freeze (rowOf_spec hx)).1 (fun q hq => ?_) hn.2
  have hq' := h q (by simp [hq])
  rw [rowOf_hput_ne (fun e => hn.1 (by rw [e]; exact List.mem_map_of_mem hq))]
  exact hq'
theorem frzHs_look : ∀ {hs : List (Nat × Nat)} {S : St} {s g : Nat} {x : Blk}, look (frzHs S hs).heap s = some (g, x) → ∃ x0, look S.heap s = some (g, x0)
 | [], S, s, g, x, h => ⟨x, h⟩
 | (s0, g0) :: hs, S, s, g, x, h => by
  unfold frzHs at h
  cases hr : rowOf S s0 g0 with
  | none => rw [hr] at h; exact frzHs_look h
  | some y =>
   obtain ⟨e, k, es⟩ := y
   rw [hr] at h
   obtain ⟨x1, h1⟩ := frzHs_look h
   rw [look_hput] at h1
   split at h1
   ·rename_i e1
    subst e1
    simp only [Option.some.injEq, Prod.mk.injEq] at h1
    obtain ⟨rfl, rfl⟩ := h1
    exact ⟨_, rowOf_spec hr⟩
   ·exact ⟨x1, h1⟩
theorem callK_frz {f : FuncId} {args : List D} {hs : List (Nat × Nat)} {R : D → Prop} {k : St → D → Prop} (h : PCall P f args R) (h1 : ∀ p ∈ hs, (rowOf S p.1 p.2).isSome = true) (h2 : (hs.map (·.1)).Nodup)
  (hR : ∀ r, R r → k (frzHs S hs) r) : CallK P f args hs S k := by
 intro w0 B C0 n C a w us E I hrep
 refine ⟨h.1, ?_⟩
 have I' := frzHs_ok I h1 h2
 refine (h.2 (C.hide hs) w us I'.ctxOk (E.now I') (hrep _ (fun _ _ => rfl) (fun _ _ => rfl))).mono ?_
 rintro e w' ⟨u, r, C', rfl, hr, hru, hok, ext, hlive, hfrm⟩
 exact ⟨u, r, _, C', rfl, hR r hr, hru, I'.after ext hok hlive hfrm, ⟨hfrm.size, fun b hb => hfrm.block b hb id⟩, I.trkSame ext.val (fun s g x h => frzHs_look h)⟩
/-! views are what they view -/
theorem viewC_ok (I : Inv w0 B C0 n S C a w) {C1 : Ctx} (hv : ∀ s g, C1.val s g = C.val s g) (hs : List (Nat × Nat)) (hl : ∀ s g, C1.live s g = if (s, g) ∈ hs then false else C.live s g) {ty : Option Nat} {d : D} {u : Value}
  (hsub : ∀ p ∈ hsC S d, p ∈ hs) (hr : Rep C w d u) : Rep C1 w (viewC S ty d) u := by
 have e1 : C1 = C.hide hs := by
  obtain ⟨v1, l1⟩ := C1
  unfold Ctx.hide
  congr 1
  ·funext s g; exact hv s g
  ·funext s g; exact hl s g
 subst e1
 have ext := Ext.hide C w hs
 have def' : viewC S ty d = d → Rep (C.hide hs) w (viewC S ty d) u := fun h => by rw [h]; exact hr.mono ext
 cases d with
 | own s g =>
  simp only [viewC]
  cases hro : rowOf S s g with
  | some x =>
   obtain ⟨e, k, es⟩ := x
   simp only
   cases hr with
   | own _ _ _ hval _ =>
    have hmem : (s, g) ∈ hs := hsub _ (by simp [hsC, hro])
    refine row_rep (I.heap s g _ (rowOf_spec hro)) hval ext (fun b hb => ⟨fun ⟨s', g', u', q1, q2, q3⟩ => ?_, rfl⟩)
    obtain ⟨_, _, hv2, hlv, _⟩ := I.heap s g _ (rowOf_spec hro)
    simp only [Ctx.hide] at q1 q2
    split at q2
    ·cases q2
    ·rename_i hnm
     obtain ⟨rfl, rfl⟩ := I.apart s' g' u' s g u b q1 q2 hval hlv q3 hb
     exact hnm hmem
  | none =>
   simp only
   cases hf : frozOf S s g with
   | some x =>
    obtain ⟨k, es⟩ := x
    simp only
    cases hr with
    | own _ _ _ hval _ =>
     obtain ⟨u', hv', hrep⟩ := I.heap s g _ (frozOf_spec hf)
     rw [hval] at hv'
     simp only [Option.some.injEq] at hv'
     subst hv'
     exact hrep.mono ext
   | none => exact hr.mono ext
 | v x =>
  unfold viewC
  split <;> try (rename_i heq; cases heq)
  ·obtain rfl := hr.v_inv
   split
   ·exact .slE _ _ _ (by simp)
   ·exact .v _
  ·exact hr.mono ext
 | _ => exact hr.mono ext
theorem viewP_ok (I : Inv w0 B C0 n S C a w) {C1 : Ctx} (hv : ∀ s g, C1.val s g = C.val s g) (hss : List (Nat × Nat)) (hl : ∀ s g, C1.live s g = if (s, g) ∈ hss then false else C.live s g) {d : D} {u : Value}
  (hsub : ∀ p ∈ hsP S d, p ∈ hss) (hr : Rep C w d u) : Rep C1 w (viewP S d) u := by
 have e1 : C1 = C.hide hss := by
  obtain ⟨v1, l1⟩ := C1
  unfold Ctx.hide
  congr 1
  ·funext s g; exact hv s g
  ·funext s g; exact hl s g
 have other : (∀ s g off, d ≠ .ptr s g off) → Rep C1 w (viewP S d) u := fun hne => by
  have h1 : viewP S d = viewC S none d := by cases d <;> first | rfl | (exfalso; exact hne _ _ _ rfl)
  have h2 : hsP S d = hsC S d := by cases d <;> first | rfl | (exfalso; exact hne _ _ _ rfl)
  rw [h1]
  exact viewC_ok I hv hss hl (by rw [← h2]; exact hsub) hr
 cases d with
 | ptr s g off =>
  simp only [viewP]
  split
  ·rename_i g' cs hx
   split
   ·rename_i hg
    subst hg
    have hsub' : ∀ p ∈ (s, g') :: (cs.drop off).flatMap (hsC S), p ∈ hss := fun p hp => hsub p (by simp only [hsP, hx, if_pos rfl]; exact hp)
    obtain ⟨b, arr, ty, h1, h2, h3, h4, h5⟩ := I.heap s g' _ hx
    cases hr with
    | ptr _ _ _ b' q1 =>
     rw [h1] at q1
     simp only [Option.some.injEq, Value.pointer.injEq, Addr.mk.injEq, and_true] at q1
     subst q1
     refine .rd _ b off (fun j => arr.getD (off + j) undef) (fun j c hj => ⟨fun ⟨s', g', u', p1, p2, p3⟩ => ?_, ?_⟩) fun j c hj => ?_
     ·subst e1
      simp only [Ctx.hide] at p1 p2
      split at p2
      ·cases p2
      ·rename_i hne
       obtain ⟨rfl, rfl⟩ := I.apart s' g' u' s _ _ b p1 p2 h1 h2 p3 rfl
       exact hne (hsub' _ (by simp))
     all_goals
      rw [List.getElem?_map, List.getElem?_drop] at hj
      obtain ⟨c0, hc0, rfl⟩ := Option.map_eq_some_iff.1 hj
      have hj' : off + j < arr.size := by rw [h4]; exact (List.getElem?_eq_some_iff.1 hc0).1
     ·simp [World.cell?, h3, hj']
     ·have hrep := (h5 (off + j) c0 arr[off + j] hc0 (by simp [hj'])).1
      have := viewC_ok I hv hss hl (ty := none) (d := c0) (fun p hp => hsub' p (by
       refine List.mem_cons_of_mem _ (List.mem_flatMap.2 ⟨c0, ?_, hp⟩)
       exact List.mem_of_getElem? (i := j) (by rw [List.getElem?_drop]; exact hc0))) hrep
      simpa [hj'] using this
   ·subst e1; exact hr.mono (Ext.hide _ _ _)
  ·subst e1; exact hr.mono (Ext.hide _ _ _)
 | _ => exact other (fun _ _ _ h => by cases h)
theorem viewL_len {S : St} : ∀ {tys : List (Option Nat)} {cs : List D}, (viewL S tys cs).length = cs.length
 | [], [] => rfl
 | _ :: _, [] => rfl
 | [], c :: cs => by simp [viewL, viewL_len (tys := []) (cs := cs)]
 | ty :: tys, c :: cs => by simp [viewL, viewL_len (tys := tys) (cs := cs)]
theorem viewL_get {S : St} : ∀ {tys : List (Option Nat)} {cs : List D} {j : Nat} {c : D}, (viewL S tys cs)[j]? = some c → ∃ ty c0, cs[j]? = some c0 ∧ c = viewC S ty c0
 | [], [], j, c, h => by simp [viewL] at h
 | _ :: _, [], j, c, h => by simp [viewL] at h
 | [], c0 :: cs, j, c, h => by
  cases j with
  | zero => simp [viewL] at h; exact ⟨none, c0, rfl, h.symm⟩
  | succ j => simp only [viewL, List.getElem?_cons_succ] at h ⊢; exact viewL_get h
 | ty :: tys, c0 :: cs, j, c, h => by
  cases j with
  | zero => simp [viewL] at h; exact ⟨ty, c0, rfl, h.symm⟩
  | succ j => simp only [viewL, List.getElem?_cons_succ] at h ⊢; exact viewL_get h
theorem view_ok (I : Inv w0 B C0 n S C a w) {C1 : Ctx} (hv : ∀ s g, C1.val s g = C.val s g) (hss : List (Nat × Nat)) (hl : ∀ s g, C1.live s g = if (s, g) ∈ hss then false else C.live s g) {tys : List (Option Nat)} {d : D} {u : Value}
  (hsub : ∀ p ∈ hs S d, p ∈ hss) (hr : Rep C w d u) : Rep C1 w (view S tys d) u := by
 cases d with
 | agg cs =>
  cases hr with
  | agg _ us hn hh =>
   refine .agg _ us (by rw [viewL_len]; exact hn) fun j c x hj hx => ?_
   obtain ⟨ty, c0, hc0, rfl⟩ := viewL_get hj
   exact viewC_ok I hv hss hl (fun p hp => hsub p (by simp only [hs, List.mem_flatMap]; exact ⟨c0, List.mem_of_getElem? hc0, hp⟩)) (hh j c0 x hc0 hx)
 | v x => exact viewC_ok I hv hss hl (ty := tys.head?.getD none) (d := .v x) hsub hr
 | tup x => exact viewC_ok I hv hss hl (ty := tys.head?.getD none) (d := .tup x) hsub hr
 | sl x y => exact viewC_ok I hv hss hl (ty := tys.head?.getD none) (d := .sl x y) hsub hr
 | slc x y => exact viewC_ok I hv hss hl (ty := tys.head?.getD none) (d := .slc x y) hsub hr
 | own x y => exact viewC_ok I hv hss hl (ty := tys.head?.getD none) (d := .own x y) hsub hr
 | ptr x y z => exact viewP_ok I hv hss hl (d := .ptr x y z) hsub hr
 | elt x y z p q => exact viewC_ok I hv hss hl (ty := tys.head?.getD none) (d := .elt x y z p q) hsub hr
 | rd x => exact viewC_ok I hv hss hl (ty := tys.head?.getD none) (d := .rd x) hsub hr
 | when x y => exact viewC_ok I hv hss hl (ty := tys.head?.getD none) (d := .when x y) hsub hr
 | mfn x y => exact viewC_ok I hv hss hl (ty := tys.head?.getD none) (d := .mfn x y) hsub hr
 | ifc x y => exact viewC_ok I hv hss hl (ty := tys.head?.getD none) (d := .ifc x y) hsub hr
 | sub x y z => exact viewC_ok I hv hss hl (ty := tys.head?.getD none) (d := .sub x y z) hsub hr
 | fn x y =>
  cases hr with
  | fn _ _ us hn hh =>
   refine .fn x _ us (by simpa using hn) fun j c v hj hx => ?_
   rw [List.getElem?_map] at hj
   obtain ⟨c0, hc0, rfl⟩ := Option.map_eq_some_iff.1 hj
   exact viewP_ok I hv hss hl (fun p hp => hsub p (by simp only [hs, List.mem_flatMap]; exact ⟨c0, List.mem_of_getElem? hc0, hp⟩)) (hh j c0 v hc0 hx)
theorem viewsL_ok (I : Inv w0 B C0 n S C a w) {C1 : Ctx} (hv : ∀ s g, C1.val s g = C.val s g) (hss : List (Nat × Nat)) (hl : ∀ s g, C1.live s g = if (s, g) ∈ hss then false else C.live s g) : ∀ {tys : List TypeId} {ds : List D} {us : List Value},
  (∀ p ∈ ds.flatMap (hs S), p ∈ hss) → RepL C w ds us → RepL C1 w (viewsL P S tys ds) us
 | _, [], us, _, h => by
  cases us with
  | nil => unfold viewsL; cases ‹List TypeId› <;> exact ⟨rfl, fun j d u hd _ => by simp at hd⟩
  | cons u us => have := h.1; simp at this
 | [], d :: ds, us, hsub, h => by
  have e1 : C1 = C.hide hss := by
   obtain ⟨v1, l1⟩ := C1
   unfold Ctx.hide
   congr 1
   ·funext s g; exact hv s g
   ·funext s g; exact hl s g
  subst e1
  exact ⟨h.1, fun j d u hd hu => (h.2 j d u hd hu).mono (Ext.hide _ _ _)⟩
 | t :: tys, d :: ds, us, hsub, h => by
  cases us with
  | nil => have := h.1; simp at this
  | cons u us =>
   have ih := viewsL_ok I hv hss hl (tys := tys) (ds := ds) (us := us) (fun p hp => hsub p (by simp only [List.flatMap_cons, List.mem_append]; exact .inr hp))
    ⟨by have := h.1; simpa using this, fun j d u hd hu => h.2 (j + 1) d u (by simpa using hd) (by simpa using hu)⟩
   refine ⟨by simp [viewsL, ih.1], fun j d' u' hd hu => ?_⟩
   cases j with
   | zero =>
    simp [viewsL] at hd hu
    subst hd hu
    exact view_ok I hv hss hl (fun p hp => hsub p (by simp only [List.flatMap_cons, List.mem_append]; exact .inl hp)) (h.2 0 d _ rfl rfl)
   | succ j => exact ih.2 j d' u' (by simpa [viewsL] using hd) (by simpa using hu)
def FunD (df : D) (f : FuncId) (caps : List D) : Prop := (df = .v (.func (.func f) #[] #[]) ∧ caps = []) ∨ df = .fn f caps
theorem FunD.rep {df : D} {f : FuncId} {caps : List D} {u : Value} (h : FunD df f caps) (hr : Rep C w df u) : ∃ cs : Array Value, u = .func (.func f) #[] cs ∧ RepL C w caps cs.toList := by
 rcases h with ⟨rfl, rfl⟩ | rfl
 ·obtain rfl := hr.v_inv
  exact ⟨#[], rfl, rfl, fun j d u hd _ => by simp at hd⟩
 ·cases hr with
  | fn _ _ us hn hh => exact ⟨us, rfl, by simpa using hn, fun j d u hd hu => hh j d u hd (by simpa using hu)⟩
def FnOk (P : Program) (f : FuncId) : Prop := ∃ fn, P.funcs[f]? = some fn ∧ (fn.name == "runtime.NumGoroutine") = false ∧ fn.body.isNone = false
def CallT (P : Program) [HasGlob P] (df : D) (ds : List D) (_ : List TypeId) (S : St) (k : St → D → Prop) : Prop :=
 ∀ {w0 : World} {B : Nat → Nat → Prop} {C0 : Ctx} {n : Nat} {C : Ctx} {a : Act} {w : World} (us : List Value) (uf : Value), Env P w0 B C0 → Inv w0 B C0 n S C a w → RepL C w ds us → Rep C w df uf →
  ∃ f cs, uf = .func (.func f) #[] cs ∧ FnOk P f ∧ Calls P f (us ++ cs.toList).toArray w fun e w' => ∃ u r S' C', e = .returned u ∧ k S' r ∧ Rep C' w' r u ∧ Inv w0 B C0 n S' C' a w' ∧ Same w w' ∧ Trk S C w S' C'
def CallA (P : Program) [HasGlob P] [HasPan P] (df : D) (ds : List D) (_ : List TypeId) (S : St) (k : St → D → Prop) : Prop :=
 ∀ {w0 : World} {B : Nat → Nat → Prop} {C0 : Ctx} {n : Nat} {C : Ctx} {a : Act} {w : World} (us : List Value) (uf : Value), Env P w0 B C0 → Inv w0 B C0 n S C a w → RepL C w ds us → Rep C w df uf →
  ∃ f cs, uf = .func (.func f) #[] cs ∧ FnOk P f ∧ Calls P f (us ++ cs.toList).toArray w fun e w' => (∃ u r S' C', e = .returned u ∧ k S' r ∧ Rep C' w' r u ∧ Inv w0 B C0 n S' C' a w') ∨ ∃ ch C', e = .panicked ch ∧ HasPan.pan P ch ∧ Inv w0 B C0 n ⟨[], []⟩ C' a w'
variable [HasPan P]
theorem CallT.toA {df : D} {ds : List D} {tys : List TypeId} {k : St → D → Prop} (h : CallT P df ds tys S k) : CallA P df ds tys S k := by
 intro w0 B C0 n C a w us uf E I hr hf
 obtain ⟨f, cs, h1, h2, h3⟩ := h us uf E I hr hf
 exact ⟨f, cs, h1, h2, h3.mono fun e w' ⟨u, r, S', C', q1, q2, q3, q4, _⟩ => .inl ⟨u, r, S', C', q1, q2, q3, q4⟩⟩
theorem RepL.append {ds es : List D} {us vs : List Value} (h : RepL C w ds us) (h' : RepL C w es vs) : RepL C w (ds ++ es) (us ++ vs) := by
 refine ⟨by simp [h.1, h'.1], fun j d u hd hu => ?_⟩
 rw [List.getElem?_append] at hd hu
 rw [h.1] at hu
 split at hd
 ·rename_i hlt; rw [if_pos hlt] at hu; exact h.2 j d u hd hu
 ·rename_i hlt; rw [if_neg hlt] at hu; exact h'.2 _ d u hd hu
theorem callT_of {df : D} {f : FuncId} {caps ds args : List D} {tys : List TypeId} {k : St → D → Prop} (hf : FunD df f caps) (hv : viewsL P S tys ds ++ caps = args) (h : CallK P f args (ds.flatMap (hs S)) S k) : CallT P df ds tys S k := by
 intro w0 B C0 n C a w us uf E I hr hu
 obtain ⟨cs, rfl, hcs⟩ := hf.rep hu
 obtain ⟨hok, hc⟩ := h (us ++ cs.toList) E I (fun C1 q1 q2 => by
  rw [← hv]
  refine (viewsL_ok I q1 _ q2 (fun p hp => hp) hr).append ⟨hcs.1, fun j d u hd hu => ?_⟩
  have e1 : C1 = C.hide (ds.flatMap (hs S)) := by
   obtain ⟨v1, l1⟩ := C1
   unfold Ctx.hide
   congr 1
   ·funext s g; exact q1 s g
   ·funext s g; exact q2 s g
  subst e1
  exact (hcs.2 j d u hd hu).mono (Ext.hide _ _ _))
 exact ⟨f, cs, rfl, hok, hc⟩
theorem CallT.tys (tys' : List TypeId) {df : D} {ds : List D} {tys : List TypeId} {k : St → D → Prop} (h : CallT P df ds tys' S k) : CallT P df ds tys S k := h
theorem callT_flat {df : D} {f : FuncId} {caps ds args : List D} {tys : List TypeId} {R : D → Prop} {k : St → D → Prop} (hf : FunD df f caps) (hv : viewsL P S tys ds ++ caps = args) (h : PCall P f args R) (hR : ∀ r, R r → flat r = true ∧ k S r) : CallT P df ds tys S k :=
 callT_of hf hv (callK_flat h hR)
theorem callT_mem {df : D} {f : FuncId} {caps ds args : List D} {tys : List TypeId} {R : D → Prop} {k : St → D → Prop} (hf : FunD df f caps) (hv : viewsL P S tys ds ++ caps = args) (hh : ds.flatMap (hs S) = []) (h : PCall P f args R) (hR : ∀ r, R r → k S r) : CallT P df ds tys S k :=
 callT_of hf hv (by rw [hh]; exact callK_mem h hR)
theorem callT_frz {df : D} {f : FuncId} {caps ds args : List D} {tys : List TypeId} {R : D → Prop} {k : St → D → Prop} {hs' : List (Nat × Nat)} (hf : FunD df f caps) (hv : viewsL P S tys ds ++ caps = args) (hh : ds.flatMap (hs S) = hs') (h : PCall P f args R)
  (h1 : ∀ p ∈ hs', (rowOf S p.1 p.2).isSome = true) (h2 : (hs'.map (·.1)).Nodup) (hR : ∀ r, R r → k (frzHs S hs') r) : CallT P df ds tys S k :=
 callT_of hf hv (by rw [hh]; exact callK_frz h h1 h2 hR)
theorem call_run (I : Inv w0 B C0 n S C a w) {o : Oper} {fx : Operand} {args : Array Operand} {tys : Array TypeId} (ho : o.op = .call { callee := .value fx, args := args, argTypes := tys }) {k : D → List D → Prop}
  (h : evK true S fx fun df => evsK true S args.toList fun ds => k df ds) : ∃ df ds uf us, k df ds ∧ Rep C w df uf ∧ RepL C w ds us ∧
   ∀ f cs, uf = .func (.func f) #[] cs → FnOk P f → (execOp a.eval o).run P w = .ok (.enter f (us ++ cs.toList).toArray) w := by
 obtain ⟨df, hds, hf⟩ := evK_ok I h
 obtain ⟨ds, hK, hlen, hr⟩ := evsK_ok I hds
 let us := args.toList.map a.eval
 have hrep : RepL C w ds us := ⟨by simp [us, hlen], fun j d u hd hu => by
  simp only [us, List.getElem?_map] at hu
  cases hx : args.toList[j]? with
  | none => rw [hx] at hu; cases hu
  | some x =>
   rw [hx] at hu
   simp only [Option.map_some, Option.some.injEq] at hu
   subst hu
   exact hr rfl j x d hx hd⟩
 refine ⟨df, ds, _, us, hK, hf rfl, hrep, ?_⟩
 rintro f cs hfe ⟨fn, h1, h2, h3⟩
 simp only [execOp, ho, resolve, hfe, Deferred.ofValue, Sem.run_bind, Sem.run_pure, Result.andThen_ok, invoke, callFunc]
 have he : (#[] ++ Array.map a.eval args ++ cs : Array Value) = (us ++ cs.toList).toArray := by
  simp only [Array.empty_append, us]
  apply Array.ext'
  simp
 simp only [he]
 have hp : (program : Sem Program).run P w = .ok P w := by simp [program, Sem.run]
 rw [hp]
 simp only [Result.andThen_ok, h1]
 simp [h2, h3]
theorem call_step (E : Env P w0 B C0) (I : Inv w0 B C0 n S C a w) {o : Oper} {fx : Operand} {args : Array Operand} {tys : Array TypeId} {K : St → Prop} (ho : o.op = .call { callee := .value fx, args := args, argTypes := tys }) (hd : dstOk n o.dst)
  (h : evK true S fx fun df => evsK true S args.toList fun ds => CallT P df ds tys.toList S fun S' r => K (S'.set o.dst r))
  (Q : Exit → Act → World → Prop) : o.wp P a w (fun a' w' => ∃ S' C', K S' ∧ Inv w0 B C0 n S' C' a' w' ∧ Same w w' ∧ Trk S C w S' C') Q := by
 obtain ⟨df, ds, uf, us, hK, hf, hrep, hrun⟩ := call_run (P := P) I ho h
 obtain ⟨f, cs, hfe, hok, hcall⟩ := hK us uf E I hrep hf
 unfold Oper.wp
 rw [hrun f cs hfe hok]
 refine hcall.mono ?_
 rintro e w' ⟨u, r, S', C', rfl, hk, hru, I', hs, ht⟩
 refine ⟨_, C', hk, I'.set (dstOk_spec hd) hru, hs, ?_⟩
 cases o.dst <;> exact ht
theorem call_stepA (E : Env P w0 B C0) (I : Inv w0 B C0 n S C a w) {o : Oper} {fx : Operand} {args : Array Operand} {tys : Array TypeId} {K : St → Prop} (ho : o.op = .call { callee := .value fx, args := args, argTypes := tys }) (hd : dstOk n o.dst)
  (h : evK true S fx fun df => evsK true S args.toList fun ds => CallA P df ds tys.toList S fun S' r => K (S'.set o.dst r))
  (Q : Exit → Act → World → Prop) (hX : PanQ P w0 B C0 n Q) : o.wp P a w (NextOk w0 B C0 n K) Q := by
 obtain ⟨df, ds, uf, us, hK, hf, hrep, hrun⟩ := call_run (P := P) I ho h
 obtain ⟨f, cs, hfe, hok, hcall⟩ := hK us uf E I hrep hf
 unfold Oper.wp
 rw [hrun f cs hfe hok]
 refine hcall.mono ?_
 rintro e w' (⟨u, r, S', C', rfl, hk, hru, I'⟩ | ⟨ch, C', rfl, hp, I'⟩)
 ·exact ⟨_, C', hk, I'.set (dstOk_spec hd) hru⟩
 ·exact hX _ _ _ _ hp I'
end
end Go.Eng
set_option linter.unusedSectionVars false
namespace Go.Eng
variable {P : Program}
def bytesOf (P : Program) (src dst : TypeId) : Option TypeId :=
 match P.underlying src, P.underlying dst with
 | some _, some (.slice e) => match P.underlying e with
  | some (.int .u8) => some e
  | _ => none
 | _, _ => none
theorem bytesOf_spec {src dst e : TypeId} (h : bytesOf P src dst = some e) : (∃ u, P.underlying src = some u) ∧ P.underlying dst = some (.slice e) ∧ P.underlying e = some (.int .u8) := by
 unfold bytesOf at h
 split at h
 ·rename_i u e' h1 h2
  split at h
  ·rename_i h3
   simp only [Option.some.injEq] at h
   subst h
   exact ⟨⟨u, h1⟩, h2, h3⟩
  ·cases h
 ·cases h
def dBytes (s : ByteArray) : D := .sl 1 (s.data.toList.map fun b => [.v (.int .u8 b.toNat)])
def convK (src dst : TypeId) (S : St) (dx : D) (k : St → D → Prop) : Prop :=
 match dx with
 | .v (.string s) => s.size ≤ 9223372036854775807 ∧ k S (dBytes s)
 | .own s g =>
  match rowOf S s g with
  | some (_, sz, es) => src = dst ∧ s < 900000 ∧ es ≠ [] ∧ k (S.hput s g (.froz sz es)) (.sl sz es)
  | none => False
 | _ => False
def bytesD : List (List D) → Option (List UInt8)
 | [] => some []
 | e :: r => match e with
  | [.v (.int .u8 n)] => if 0 ≤ n ∧ n < 256 then (bytesD r).map (UInt8.ofNat n.toNat :: ·) else none
  | _ => none
theorem bytesD_map (l : List UInt8) : bytesD (l.map fun b => [D.v (.int .u8 b.toNat)]) = some l := by
 induction l with
 | nil => rfl
 | cons b l ih =>
  have hb := UInt8.toNat_lt b
  simp only [List.map_cons, bytesD, ih]
  rw [if_pos (by omega)]
  simp
theorem bytesD_spec : ∀ {es : List (List D)} {l : List UInt8}, bytesD es = some l → es = l.map fun b => [D.v (.int .u8 b.toNat)]
 | [], l, h => by simp [bytesD] at h; subst h; rfl
 | e :: r, l, h => by
  simp only [bytesD] at h
  split at h
  ·rename_i n
   split at h
   ·rename_i hn
    obtain ⟨l', h', rfl⟩ := Option.map_eq_some_iff.1 h
    have ih := bytesD_spec h'
    have e : ((UInt8.ofNat n.toNat).toNat : Int) = n := by rw [UInt8.toNat_ofNat']; omega
    rw [List.map_cons, e, ← ih]
   ·cases h
  ·cases h
def strOf (P : Program) (src dst : TypeId) : Bool := match P.underlying src, P.underlying dst with
 | some (.slice e), some .string => match P.underlying e with
  | some (.int .u8) => true
  | _ => false
 | _, _ => false
theorem strOf_spec {src dst : TypeId} (h : strOf P src dst = true) : ∃ e, P.underlying src = some (.slice e) ∧ P.underlying e = some (.int .u8) ∧ P.underlying dst = some .string := by
 unfold strOf at h
 split at h
 ·rename_i e h1 h2
  split at h
  ·rename_i h3; exact ⟨e, h1, h3, h2⟩
  ·cases h
 ·cases h
def strK (S : St) (dx : D) (k : D → Prop) : Prop :=
 match srcOf S 1 dx with
 | some es => match bytesD es with
  | some l => k (.v (.string ⟨l.toArray⟩))
  | none => False
 | none => False
section
variable {w0 : World} {B : Nat → Nat → Prop} {C0 : Ctx} {n : Nat} {S : St} {C : Ctx} {a : Act} {w w' : World}
theorem Rep.cellsEq (hc : ∀ ad : Addr, ad.spot = none → w'.cell? ad = w.cell? ad) {d : D} {u : Value} (h : Rep C w d u) : Rep C w' d u := by
 induction h with
 | v x => exact .v x
 | agg cs us hn _ ih => exact .agg cs us hn ih
 | tup cs us hn _ ih => exact .tup cs us hn ih
 | own s g u h h1 => exact .own s g u h h1
 | ptr s g off b h => exact .ptr s g off b h
 | elt s g k i off b n c h => exact .elt s g k i off b n c h
 | rd cs b o us hcc _ ih => exact .rd cs b o us (fun j c hj => ⟨(hcc j c hj).1, (hc _ rfl).trans (hcc j c hj).2⟩) ih
 | slE k a cap hm => exact .slE k a cap hm
 | sl k es b o cap us hl hm hk hcc _ ih => exact .sl k es b o cap us hl hm hk (fun i j e' c hi hj => ⟨(hcc i j e' c hi hj).1, (hc _ rfl).trans (hcc i j e' c hi hj).2⟩) ih
 | slc k es u _ hc' ih => exact .slc k es u ih hc'
 | whenT d u _ ih => exact .whenT d u ih
 | whenF d => exact .whenF d
 | fn f cs us hn _ ih => exact .fn f cs us hn ih
 | ifc t d u _ ih => exact .ifc t d u ih
 | mfn t d u _ ih => exact .mfn t d u ih
 | sub s g j b n c h hj => exact .sub s g j b n c h hj
theorem Inv.marked (I : Inv w0 B C0 n S C a w) {b0 : Nat} (hno : ¬ C.owns b0) (hb0 : w0.heap.size ≤ b0) (hh : ∀ b, b ≠ b0 → w'.heap[b]? = w.heap[b]?) (hc : ∀ ad : Addr, ad.spot = none → w'.cell? ad = w.cell? ad) (hs : w'.heap.size = w.heap.size)
  (h1 : w'.os = w.os) (h2 : w'.tape = w.tape) (h3 : w'.output = w.output) : Inv w0 B C0 n S C a w' := by
 refine ⟨I.size, I.defers, fun k d hk => ?_, fun s g b hb => ?_, I.mine, I.apart, fun s g u b p1 p2 p3 => by rw [hs]; exact I.bound s g u b p1 p2 p3, I.fresh,
  ⟨h1.trans I.frame.os, h2.trans I.frame.tape, h3.trans I.frame.output, by rw [hs]; exact I.frame.size, fun b hb hn => (hh b (by omega)).trans (I.frame.block b hb hn)⟩, I.old, I.owned, I.kept, I.ents, I.dead0, I.bound0⟩
 ·obtain ⟨u, hu, hr⟩ := I.slots k d hk
  exact ⟨u, hu, hr.cellsEq hc⟩
 ·have hH := I.heap s g b hb
  cases b with
  | box cs =>
   obtain ⟨bb, arr, ty, q1, q2, q3, q4, q5⟩ := hH
   refine ⟨bb, arr, ty, q1, q2, (hh bb (fun e => hno ⟨s, g, _, q1, q2, by subst e; rfl⟩)).trans q3, q4, fun j c u hj hu => ⟨(q5 j c u hj hu).1.cellsEq hc, (q5 j c u hj hu).2⟩⟩
  | row e k es =>
   obtain ⟨u, xs, q1, q2, q3, q4, q5⟩ := hH
   refine ⟨u, xs, q1, q2, ?_, q4, fun i j e' c x h1 h2 h3 => ⟨(q5 i j e' c x h1 h2 h3).1.cellsEq hc, (q5 i j e' c x h1 h2 h3).2⟩⟩
   refine ⟨q3.1, ?_⟩
   rcases q3.2 with h | ⟨gb, cap, cur, rfl, p2, p3, p4⟩
   ·exact .inl h
   ·refine .inr ⟨gb, cap, cur, rfl, p2, ?_, p4⟩
    rw [hh gb (fun e => hno ⟨s, g, _, q1, q2, by subst e; rfl⟩)]
    exact p3
  | froz k es =>
   obtain ⟨u, q1, q2⟩ := hH
   exact ⟨u, q1, q2.cellsEq hc⟩
  | map es =>
   obtain ⟨r, arr, clock, q1, q2, q3, q4, q5⟩ := hH
   exact ⟨r, arr, clock, q1, q2, (hh r (fun e => hno ⟨s, g, _, q1, q2, by subst e; rfl⟩)).trans q3, q4, fun j e x hj hx => ⟨(q5 j e x hj hx).1, (q5 j e x hj hx).2.cellsEq hc⟩⟩
  | bld t nr gr =>
   obtain ⟨bb, p, v, q1, q2, q3, q4, q5⟩ := hH
   exact ⟨bb, p, v, q1, q2, (hh bb (fun e => hno ⟨s, g, _, q1, q2, by subst e; rfl⟩)).trans q3, q4, q5⟩
  | brow e l =>
   obtain ⟨u, q1, q2, q3⟩ := hH
   refine ⟨u, q1, q2, ⟨q3.1, ?_⟩⟩
   rcases q3.2 with h | ⟨gb, cap, cur, fz, rfl, p2, p3, p4⟩
   ·exact .inl h
   ·refine .inr ⟨gb, cap, cur, fz, rfl, p2, ?_, p4⟩
    rw [hh gb (fun e => hno ⟨s, g, _, q1, q2, by subst e; rfl⟩)]
    exact p3
theorem freeze_facts (w : World) (ad : Addr) (m : Nat) : (∀ b, b ≠ ad.block → (w.freeze ad m).heap[b]? = w.heap[b]?) ∧ (∀ x : Addr, x.spot = none → (w.freeze ad m).cell? x = w.cell? x) ∧ (w.freeze ad m).heap.size = w.heap.size ∧
  (w.freeze ad m).os = w.os ∧ (w.freeze ad m).tape = w.tape ∧ (w.freeze ad m).output = w.output := by
 unfold World.freeze
 by_cases h : m = 0
 ·simp [h]
 ·rw [if_neg h]
  refine ⟨fun b hb => ?_, fun x hx => ?_, by simp, rfl, rfl, rfl⟩
  ·simp only [Array.getElem?_modify]
   rw [if_neg (fun e => hb e.symm)]
  ·unfold World.cell?
   by_cases e : ad.block = x.block
   ·cases hb : w.heap[x.block]? with
    | none => simp [Array.getElem?_modify, e, hb]
    | some o => cases o <;> simp [Array.getElem?_modify, e, hb]
   ·simp [Array.getElem?_modify, e]
theorem conv_step (I : Inv w0 B C0 n S C a w) {o : Oper} {src dst e : TypeId} {x : Operand} {K : St → Prop} (ho : o.op = .convert src dst x) (hd : dstOk n o.dst) (he : bytesOf P src dst = some e)
  (h : evK true S x fun dx => convK src dst S dx fun S' d => K (S'.set o.dst d)) (Q : Exit → Act → World → Prop) : o.wp P a w (NextOk w0 B C0 n K) Q := by
 obtain ⟨⟨us, h1⟩, h2, h3⟩ := bytesOf_spec he
 obtain ⟨dx, hk, hr⟩ := evK_ok I h
 replace hr := hr rfl
 unfold convK at hk
 split at hk
 ·rename_i s
  obtain ⟨hsz, hk⟩ := hk
  have hx := hr.v_inv
  have hrun : (execOp a.eval o).run P w = .ok (.value (.slice (some ⟨w.heap.size, 0, none⟩) s.size (grownCap w s.size 0 e))) (Lib.bytesWorld w e s) := by
   simp only [execOp, ho, hx, Sem.run_bind, Lib.run_convert_string_bytes w src dst e s h1 h2 h3, Result.andThen_ok, Sem.run_pure]
  have hmax : grownCap w s.size 0 e ≤ maxLen := grownCap_le_maxLen w _ _ _ hsz
  have hge : s.size ≤ grownCap w s.size 0 e := grownCap_ge _ _ _ _
  have hold : ∀ b, b < w.heap.size → (Lib.bytesWorld w e s).heap[b]? = w.heap[b]? := fun b hb => Lib.bytesWorld_at_old w e s b hb
  have hno : ¬ C.owns w.heap.size := fun ⟨s, g, u, q1, q2, q3⟩ => by have := I.bound s g u _ q1 q2 q3; omega
  have I' : Inv w0 B C0 n S C a (Lib.bytesWorld w e s) := I.after ⟨fun _ _ _ h => h, fun _ _ h => h, fun b hb _ => hold b hb, by rw [Lib.bytesWorld_size]; omega⟩
   ⟨I.apart, fun s' g u b q1 q2 q3 => by rw [Lib.bytesWorld_size]; have := I.bound s' g u b q1 q2 q3; omega, I.fresh⟩ (fun _ _ _ _ => rfl) ⟨rfl, rfl, rfl, by rw [Lib.bytesWorld_size]; omega, fun b hb _ => hold b hb⟩
  have hrep : Rep C (Lib.bytesWorld w e s) (dBytes s) (.slice (some ⟨w.heap.size, 0, none⟩) s.size (grownCap w s.size 0 e)) := by
   have hl : (s.data.toList.map fun b => [D.v (.int .u8 b.toNat)]).length = s.size := by rw [List.length_map, Array.length_toList]; rfl
   unfold dBytes
   rw [← hl] at hge ⊢
   refine .sl 1 _ w.heap.size 0 _ (fun i _ => .int .u8 (s.data.toList.getD i 0).toNat) (by rw [hl] at hge ⊢; exact hge) (by rw [hl]; exact hmax) (fun e he => ?_) (fun i j e' c hi hj => ⟨hno, ?_⟩) (fun i j e' c hi hj => ?_)
   ·simp only [List.mem_map] at he; obtain ⟨_, _, rfl⟩ := he; rfl
   ·have hi2 : i < s.size := by rw [← hl]; exact (List.getElem?_eq_some_iff.1 hi).1
    have hj0 : j = 0 := by
     have hm := List.mem_of_getElem? hi
     simp only [List.mem_map] at hm
     obtain ⟨_, _, rfl⟩ := hm
     have := (List.getElem?_eq_some_iff.1 hj).1
     simpa using this
    subst hj0
    have := Lib.bytesWorld_cell w e s i hi2
    simpa using this
   ·have hm := hi
    rw [List.getElem?_map] at hm
    cases hb : s.data.toList[i]? with
    | none => rw [hb] at hm; cases hm
    | some b =>
     rw [hb] at hm
     simp only [Option.map_some, Option.some.injEq] at hm
     subst hm
     have hj0 : j = 0 := by have := (List.getElem?_eq_some_iff.1 hj).1; simpa using this
     subst hj0
     simp only [List.getElem?_cons_zero, Option.some.injEq] at hj
     subst hj
     have : s.data.toList.getD i 0 = b := by simp [List.getD, hb]
     rw [this]
     exact .v _
  unfold Oper.wp
  rw [hrun]
  exact ⟨_, C, hk, I'.set (dstOk_spec hd) hrep⟩
 ·rename_i s g
  split at hk
  ·rename_i e' sz es hro
   obtain ⟨hsd, hs9, hne, hk⟩ := hk
   subst hsd
   have hx := rowOf_spec hro
   obtain ⟨u, xs, hv, hl, hown, hkk, hall⟩ := I.heap s g _ hx
   cases hr with
   | own _ _ _ hv2 _ =>
    rw [hv] at hv2
    simp only [Option.some.injEq] at hv2
    obtain ⟨I1, _⟩ := I.freeze hx
    rcases hown.2 with ⟨_, h0⟩ | ⟨gb, cap, cur, hu, _, hg, hnc, hcm, hcs, htake⟩
    ·exact absurd (List.eq_nil_of_length_eq_zero h0) hne
    ·subst hu
     have hshape : w.shape? gb = some (e', cur.size) := by simp [World.shape?, hg]
     let w' := w.freeze ⟨gb, cur.size, none⟩ 1
     have hrun : (execOp a.eval o).run P w = .ok (.value (a.eval x)) w' := by
      have hconv : ∀ (v : Value), v = .slice (some ⟨gb, 0, none⟩) es.length cap → (convert src src v).run P w = .ok v w' := fun v hv => by
       subst hv
       have h1' := h2
       simp [convert, run_underlying h2, run_underlying h3, markStringish, hshape, w']
      simp only [execOp, ho, Sem.run_bind, hconv _ hv2.symm, Result.andThen_ok, Sem.run_pure]
     obtain ⟨f1, f2, f3, f4, f5, f6⟩ := freeze_facts w ⟨gb, cur.size, none⟩ 1
     have hb0 : w0.heap.size ≤ gb := by
      rcases I.mine s g gb _ _ hx hl hv rfl with h | ⟨_, h⟩
      ·exact h
      ·omega
     have hno : ¬ (C.kill s g).owns gb := fun ⟨s', g', u', q1, q2, q3⟩ => by
      simp only [Ctx.kill] at q1 q2
      split at q2
      ·cases q2
      ·rename_i hne2
       exact hne2 (I.apart s' g' u' s g _ gb q1 q2 hv hl q3 rfl)
     have I2 : Inv w0 B C0 n (S.hput s g (.froz sz es)) (C.kill s g) a w' := I1.marked hno hb0 f1 f2 f3 f4 f5 f6
     have hrep : Rep (C.kill s g) w' (.sl sz es) (a.eval x) := by
      obtain ⟨u, q1, q2⟩ := I2.heap s g (.froz sz es) (by rw [look_hput, if_pos rfl])
      have q1 : C.val s g = some u := q1
      rw [hv] at q1
      simp only [Option.some.injEq] at q1
      rw [← hv2, q1]
      exact q2
     unfold Oper.wp
     rw [hrun]
     exact ⟨_, _, hk, I2.set (dstOk_spec hd) hrep⟩
  ·exact hk.elim
 ·exact hk.elim
theorem run_nil_bytes {P : Program} (w : World) (src dst e : TypeId) (c : Nat) (hs : P.underlying src = some (.slice e)) (he : P.underlying e = some (.int .u8)) (hd : P.underlying dst = some .string) :
  (convert src dst (.slice none 0 c)).run P w = .ok (.string ⟨#[]⟩) w := by
 rw [run_convert_bytes_string w src dst e none 0 c hs he hd]
 simp [Conv.bytesToString]
 rfl
theorem str_step (I : Inv w0 B C0 n S C a w) {o : Oper} {src dst : TypeId} {x : Operand} {dx : D} {K : St → Prop} (ho : o.op = .convert src dst x) (hd : dstOk n o.dst) (he : strOf P src dst = true) (hr : Rep C w dx (a.eval x))
  (h : strK S dx fun d => K (S.set o.dst d)) (Q : Exit → Act → World → Prop) : o.wp P a w (NextOk w0 B C0 n K) Q := by
 obtain ⟨e, h1, h2, h3⟩ := strOf_spec he
 unfold strK at h
 split at h
 ·rename_i es hes
  split at h
  ·rename_i l hl
   have hes1 := bytesD_spec hl
   obtain ⟨ao, cap, hu, hk, hc⟩ := src_ok I (by decide : 0 < 1) hes hr (oneLL_ok (by rw [hes1]; exact oneLL_map l (fun b => rfl)))
   have hlen : es.length = l.length := by rw [hes1]; simp
   refine wp_val (u := .string ⟨l.toArray⟩) (w' := w) ?_ ⟨_, C, h, I.set (dstOk_spec hd) (.v _)⟩
   have hconv : (convert src dst (a.eval x)).run P w = .ok (.string ⟨l.toArray⟩) w := by
    rw [hu, hlen]
    cases ao with
    | none =>
     have h0 : es = [] := by
      refine Decidable.byContradiction fun hne => ?_
      obtain ⟨ad, _, h, _⟩ := hc hne
      cases h
     have hl0 : l = [] := by
      have := congrArg List.length h0
      rw [hlen] at this
      exact List.eq_nil_of_length_eq_zero this
     subst hl0
     exact run_nil_bytes w src dst e cap h1 h2 h3
    | some ad =>
     refine Go.run_convert_bytes_back w src dst e ad cap l h1 h2 h3 fun j hj => ?_
     have hne : es ≠ [] := by intro h0; rw [h0] at hlen; simp at hlen; omega
     obtain ⟨ad', news, hq, hn, hcell, _, hrep⟩ := hc hne
     simp only [Option.some.injEq] at hq
     subst hq
     have hj' : j < news.length := by rw [hn]; omega
     have hx := hcell j news[j] (List.getElem?_eq_getElem hj')
     have := hrep j 0 [.v (.int .u8 l[j].toNat)] (.v (.int .u8 l[j].toNat)) news[j] (by rw [hes1]; simp [hj]) rfl (by rw [Nat.mul_one, Nat.add_zero]; exact List.getElem?_eq_getElem hj')
     rw [hx, this.v_inv]
   simp only [execOp, ho, Sem.run_bind, hconv, Result.andThen_ok, Sem.run_pure]
  ·exact h.elim
 ·exact h.elim
end
variable {P : Program}
/-! maps that are written -/
def mput (tag : Nat) (key : Value) (d : D) : List (Value × D) → List (Value × D)
 | [] => [(key, d)]
 | (k', d') :: r => match keyEq tag key k' with
  | some true => (key, d) :: r
  | _ => (k', d') :: mput tag key d r
def mdel (tag : Nat) (key : Value) : List (Value × D) → List (Value × D)
 | [] => []
 | (k', d') :: r => match keyEq tag key k' with
  | some true => r
  | _ => (k', d') :: mdel tag key r
def mapW (S : St) (tag : Nat) (dm dk : D) (f : Value → List (Value × D) → List (Value × D)) (K : St → Prop) : Prop :=
 match dm, dk with
 | .own s g, .v key => match look S.heap s with
  | some (g', .map es) => g' = g ∧ (mfind tag key es).isSome = true ∧ K (S.hput s g (.map (f key es)))
  | _ => False
 | _, _ => False
theorem keyEq_bits {tag : Nat} {a b : Value} (h : keyEq tag a b = some true) : Instr.sameBits 10000 b a = true := by
 unfold keyEq at h
 split at h
 ·split at h
  ·rename_i hk
   simp only [Option.some.injEq, decide_eq_true_eq] at h
   subst hk h
   simp [Instr.sameBits]
  ·cases h
 ·simp only [Option.some.injEq, beq_iff_eq] at h
  simp only [Instr.sameBits]
  rw [beq_toListBytes, ByteArray.toList_eq, ByteArray.toList_eq, h]
  simp
 ·cases h
theorem keyEq_eq {tag : Nat} {a b : Value} (h : keyEq tag a b = some true) : a = b := by
 unfold keyEq at h
 split at h
 ·split at h
  ·rename_i hk
   simp only [Option.some.injEq, decide_eq_true_eq] at h
   subst hk h
   rfl
  ·cases h
 ·rename_i x y
  simp only [Option.some.injEq, beq_iff_eq] at h
  obtain ⟨⟨x⟩⟩ := x
  obtain ⟨⟨y⟩⟩ := y
  simp only at h
  rw [h]
 ·cases h
theorem keyEq_self {tag : Nat} {a : Value} : keyEq tag a a ≠ some false := by
 rcases tag with _ | _ | tag <;> cases a <;> simp [keyEq]
theorem mfind_new {tag : Nat} {key : Value} : ∀ {es : List (Value × D)}, mfind tag key es = some none → ∀ (j : Nat) (e : Value × D), es[j]? = some e → e.1 ≠ key
 | [], _, j, e, he => by simp at he
 | (k', d') :: es, h, j, e, he => by
  simp only [mfind] at h
  split at h
  ·cases h
  ·rename_i hf
   match j, he with
   | 0, he =>
    simp at he
    subst he
    intro q
    simp only at q
    subst q
    exact keyEq_self hf
   | j + 1, he => exact mfind_new h j e (by simpa using he)
  ·cases h
theorem mput_none {tag : Nat} {key : Value} {d : D} : ∀ {es : List (Value × D)}, mfind tag key es = some none → mput tag key d es = es ++ [(key, d)] ∧ mdel tag key es = es
 | [], _ => ⟨rfl, rfl⟩
 | (k', d') :: es, h => by
  simp only [mfind] at h
  split at h
  ·cases h
  ·rename_i he
   obtain ⟨h1, h2⟩ := mput_none (d := d) h
   simp only [mput, mdel, he, h1, h2, List.cons_append, and_self]
  ·cases h
theorem mput_some {tag : Nat} {key : Value} {d : D} : ∀ {es : List (Value × D)} {j : Nat} {e : Value × D}, es[j]? = some e → keyEq tag key e.1 = some true → (∀ (m : Nat) (e' : Value × D), m < j → es[m]? = some e' → keyEq tag key e'.1 = some false) →
  mput tag key d es = es.set j (key, d) ∧ mdel tag key es = es.eraseIdx j
 | [], j, e, h, _, _ => by simp at h
 | (k', d') :: es, 0, e, h, h1, _ => by
  simp at h
  subst h
  simp only [mput, mdel, h1, List.set_cons_zero, List.eraseIdx_cons_zero, and_self]
 | (k', d') :: es, j + 1, e, h, h1, h2 => by
  have h0 := h2 0 _ (by omega) rfl
  obtain ⟨q1, q2⟩ := mput_some (d := d) (es := es) (j := j) (by simpa using h) h1 (fun m e' hm he => h2 (m + 1) e' (by omega) (by simpa using he))
  simp only at h0
  simp only [mput, mdel, h0, q1, q2, List.set_cons_succ, List.eraseIdx_cons_succ, and_self]
section
variable {w0 : World} {B : Nat → Nat → Prop} {C0 : Ctx} {n : Nat} {S : St} {C : Ctx} {a : Act} {w w1 : World} {o : Obj}
theorem makeMap_step (I : Inv w0 B C0 n S C a w) {o : Oper} {t : TypeId} {t' : Nat} {K : St → Prop} (ho : o.op = .makeMap t none) (hd : o.dst = some t') (ht : t' < n)
  (h : ∀ g, K ((S.hput t' g (.map [])).put t' (.own t' g))) (Q : Exit → Act → World → Prop) : o.wp P a w (NextT w0 B C0 n K S C w t') Q := by
 obtain ⟨g, C', I', hv, e⟩ := I.new t' (.map []) (.map (some w.heap.size)) rfl (Pushed.alloc w (.map #[] 0)) (fun C' g e hv hl =>
  ⟨w.heap.size, #[], 0, hv, hl, (Pushed.alloc w _).new, ⟨rfl, MapKept.stamped_empty 0⟩, fun j c x hj _ => by simp at hj⟩)
 refine wp_val (u := .map (some w.heap.size)) (w' := w.alloc (.map #[] 0)) ?_ ?_
 ·simp [execOp, ho, Instr.makeMap]
 ·rw [hd]
  obtain ⟨q1, q2⟩ := Trk.new (I.trkSame (fun _ _ _ h => h) (fun _ _ x h => ⟨x, h⟩)) e.val (fun s g x h => hrep_val (I.heap s g x h)) hv rfl (Nat.le_refl _) (y := .map [])
  exact ⟨_, C', h g, I'.put ht (.own t' g _ hv rfl), Same.alloc _ _, q1, q2⟩
structure MapRun (P : Program) (w : World) (r : Nat) (w' : World) (arr : Array MapEntry) (clock : Nat) : Prop where
 heap : w'.heap[r]? = some (.map arr clock)
 other : ∀ k, k ≠ r → w'.heap[k]? = w.heap[k]?
 size : w'.heap.size = w.heap.size
 os : w'.os = w.os
 tape : w'.tape = w.tape
 output : w'.output = w.output
theorem mapRun_set {r : Nat} {o : Obj} {arr : Array MapEntry} {clock : Nat} (hr : w.heap[r]? = some o) : MapRun P w r { w with heap := w.heap.setIfInBounds r (.map arr clock) } arr clock := by
 have hlt : r < w.heap.size := (Array.getElem?_eq_some_iff.1 hr).1
 refine ⟨by simp [hlt], fun k hk => by simp [Ne.symm hk], by simp, rfl, rfl, rfl⟩
theorem Inv.mapWritten (I : Inv w0 B C0 n S C a w) {s g : Nat} {es es' : List (Value × D)} (hl : look S.heap s = some (g, .map es)) {r clock : Nat} {arr : Array MapEntry} {w' : World} (hv : C.val s g = some (.map (some r))) (hlv : C.live s g = true) (hm : MapRun P w r w' arr clock)
  (h4 : arr.size = es'.length ∧ MapKept.Stamped arr clock) (h5 : ∀ (j : Nat) e x, es'[j]? = some e → arr[j]? = some x → x.key = e.1 ∧ Rep C w e.2 x.val) : Inv w0 B C0 n (S.hput s g (.map es')) C a w' :=
 (I.write (x' := .map es') hl hv hlv rfl (w' := w') hm.other hm.size hm.os hm.tape hm.output fun e => ⟨r, arr, clock, hv, hlv, hm.heap, h4, fun j c x hj hx => ⟨(h5 j c x hj hx).1, (h5 j c x hj hx).2.mono e⟩⟩).1
theorem mapUpdate_ok (I : Inv w0 B C0 n S C a w) {t e : TypeId} {tag : Nat} (hm : mapOf P t = some (tag, e)) {dm dk dv : D} {um uk uv : Value} {K : St → Prop} (h : mapW S tag dm dk (fun key es => mput tag key dv es) K)
  (h1 : Rep C w dm um) (h2 : Rep C w dk uk) (h3 : Rep C w dv uv) : ∃ S' C' w', K S' ∧ (Instr.mapUpdate t um uk uv).run P w = .ok () w' ∧ Inv w0 B C0 n S' C' a w' := by
 unfold mapW at h
 split at h
 ·rename_i s g key
  split at h
  ·rename_i g' es hl
   obtain ⟨rfl, hfs, hK⟩ := h
   obtain ⟨x, hf⟩ := Option.isSome_iff_exists.1 hfs
   obtain rfl := h2.v_inv
   obtain ⟨r, arr, clock, q1, q2, q3, ⟨q4, q7⟩, q5⟩ := I.heap s g' _ hl
   cases h1 with
   | own _ _ _ hv _ =>
    rw [q1] at hv
    simp only [Option.some.injEq] at hv
    subst hv
    obtain ⟨kt, hu, hk⟩ := mapOf_spec hm
    obtain ⟨kd, hkd, hk'⟩ : ∃ kd, P.underlying kt = some kd ∧ ((tag = 0 ∧ ∃ q, kd = .int q) ∨ (tag = 1 ∧ kd = .string)) := by
     rcases hk with ⟨h1, q, h2⟩ | ⟨h1, h2⟩
     ·exact ⟨_, h2, .inl ⟨h1, q, rfl⟩⟩
     ·exact ⟨_, h2, .inr ⟨h1, rfl⟩⟩
    have hg : (getObj r).run P w = .ok (.map arr clock) w := by simp [getObj, Sem.run, q3]
    have hset : ∀ o : Obj, (setObj r o).run P w = .ok () { w with heap := w.heap.setIfInBounds r o } := fun o => by
     have hlt : r < w.heap.size := (Array.getElem?_eq_some_iff.1 q3).1
     simp [setObj, Sem.run, q3]
    have key0 := mfind_ok hk' 0 (arr := arr.toList) (by simpa using q4) (fun j e x p1 p2 => (q5 j e x p1 (by simpa using p2)).1) hf
    cases x with
    | none =>
     obtain ⟨e1, _⟩ := mput_none (d := dv) hf
     simp only [e1] at hK
     have hn := key0.1 rfl
     refine ⟨_, C, _, hK, ?_, I.mapWritten (P := P) hl q1 q2 (mapRun_set (arr := arr.push ⟨uk, uv, clock⟩) (clock := clock + 1) q3) ⟨by simp [q4], MapKept.stamped_push q7 (fun x hx => by
      obtain ⟨m, hm, rfl⟩ := List.mem_iff_getElem.1 hx
      have hm' : m < arr.size := by simpa using hm
      obtain ⟨e, he⟩ : ∃ e, es[m]? = some e := ⟨_, List.getElem?_eq_getElem (by omega)⟩
      have := (q5 m e _ he (Array.getElem?_eq_getElem hm')).1
      rw [Array.getElem_toList, this]
      exact mfind_new hf m e he)⟩ fun j c x hj hx => ?_⟩
     ·simp only [Instr.mapUpdate, Sem.run_bind, run_underlying hu, Result.andThen_ok, hg, checkKey_ok hkd hk', Instr.findKey, run_underlying hkd, hn, Sem.run_pure, hset]
     ·rcases Nat.lt_trichotomy j es.length with hlt | heq | hgt
      ·rw [List.getElem?_append_left hlt] at hj
       rw [Array.getElem?_push, if_neg (by omega)] at hx
       exact q5 j c x hj hx
      ·subst heq
       rw [List.getElem?_append_right (Nat.le_refl _)] at hj
       rw [Array.getElem?_push, if_pos (by omega)] at hx
       simp at hj hx
       subst hj hx
       exact ⟨rfl, h3⟩
      ·rw [List.getElem?_eq_none (by simp; omega)] at hj
       cases hj
    | some d0 =>
     obtain ⟨j, e', x', p1, p2, p3, p4, p5, p6⟩ := key0.2 d0 rfl
     have hx' : arr[j]? = some x' := by simpa using p2
     have hxk := (q5 j e' x' p1 hx').1
     obtain ⟨e1, _⟩ := mput_some (d := dv) p1 (by rw [← hxk]; exact p5) p6
     simp only [e1] at hK
     have hjl : j < arr.size := (Array.getElem?_eq_some_iff.1 hx').1
     have stays : (Instr.keyThatStays (((arr[j]?).map (·.key)).getD uk) uk).run P w = .ok uk w := by
      have hs : Instr.sameBits 10000 x'.key uk = true := keyEq_bits p5
      simp only [hx', Option.map_some, Option.getD_some, Instr.keyThatStays, hs, if_true, Sem.run_pure]
     refine ⟨_, C, _, hK, ?_, I.mapWritten (P := P) hl q1 q2 (mapRun_set (arr := arr.modify j fun e => { e with key := uk, val := uv }) (clock := clock) q3) ⟨by simp [q4], MapKept.stamped_modify q7 j _ (fun _ _ => rfl) (fun e _ he => by
      rw [hx'] at he
      cases he
      exact keyEq_eq p5)⟩ fun m c x hj hx => ?_⟩
     ·simp only [Instr.mapUpdate, Sem.run_bind, run_underlying hu, Result.andThen_ok, hg, checkKey_ok hkd hk', Instr.findKey, run_underlying hkd, p4, Nat.zero_add, Sem.run_pure, stays, hset]
     ·rw [Array.getElem?_modify] at hx
      rw [List.getElem?_set] at hj
      by_cases hjm : j = m
      ·subst hjm
       rw [if_pos rfl, hx'] at hx
       rw [if_pos rfl, if_pos (by omega)] at hj
       simp at hj hx
       subst hj hx
       exact ⟨rfl, h3⟩
      ·rw [if_neg hjm] at hj hx
       exact q5 m c x hj hx
  ·exact h.elim
 ·exact h.elim
theorem mapDelete_ok (I : Inv w0 B C0 n S C a w) {t k2 ty : TypeId} {e : TypeId} {tag : Nat} (hm : mapOf P t = some (tag, e)) {dm dk : D} {um uk : Value} {K : St → Prop} (h : mapW S tag dm dk (fun key es => mdel tag key es) K)
  (h1 : Rep C w dm um) (h2 : Rep C w dk uk) : ∃ S' C' w', K S' ∧ (Builtin.delete_ #[t, k2] ty #[um, uk]).run P w = .ok (.tuple #[]) w' ∧ Inv w0 B C0 n S' C' a w' := by
 unfold mapW at h
 split at h
 ·rename_i s g key
  split at h
  ·rename_i g' es hl
   obtain ⟨rfl, hfs, hK⟩ := h
   obtain ⟨x, hf⟩ := Option.isSome_iff_exists.1 hfs
   obtain rfl := h2.v_inv
   obtain ⟨r, arr, clock, q1, q2, q3, ⟨q4, q7⟩, q5⟩ := I.heap s g' _ hl
   cases h1 with
   | own _ _ _ hv _ =>
    rw [q1] at hv
    simp only [Option.some.injEq] at hv
    subst hv
    obtain ⟨kt, hu, hk⟩ := mapOf_spec hm
    obtain ⟨kd, hkd, hk'⟩ : ∃ kd, P.underlying kt = some kd ∧ ((tag = 0 ∧ ∃ q, kd = .int q) ∨ (tag = 1 ∧ kd = .string)) := by
     rcases hk with ⟨h1, q, h2⟩ | ⟨h1, h2⟩
     ·exact ⟨_, h2, .inl ⟨h1, q, rfl⟩⟩
     ·exact ⟨_, h2, .inr ⟨h1, rfl⟩⟩
    have hg : (getObj r).run P w = .ok (.map arr clock) w := by simp [getObj, Sem.run, q3]
    have hset : ∀ o : Obj, (setObj r o).run P w = .ok () { w with heap := w.heap.setIfInBounds r o } := fun o => by
     have hlt : r < w.heap.size := (Array.getElem?_eq_some_iff.1 q3).1
     simp [setObj, Sem.run, q3]
    have key0 := mfind_ok hk' 0 (arr := arr.toList) (by simpa using q4) (fun j e x p1 p2 => (q5 j e x p1 (by simpa using p2)).1) hf
    cases x with
    | none =>
     obtain ⟨_, e1⟩ := mput_none (d := .v uk) hf
     simp only [e1] at hK
     have hn := key0.1 rfl
     refine ⟨_, C, _, hK, ?_, I.mapWritten (P := P) hl q1 q2 (mapRun_set (arr := arr) (clock := clock) q3) ⟨q4, q7⟩ q5⟩
     simp [Builtin.delete_, run_underlying hu, hg, checkKey_ok hkd hk', Instr.findKey, run_underlying hkd, hn, hset]
    | some d0 =>
     obtain ⟨j, e', x', p1, p2, p3, p4, p5, p6⟩ := key0.2 d0 rfl
     have hx' : arr[j]? = some x' := by simpa using p2
     have hxk := (q5 j e' x' p1 hx').1
     obtain ⟨_, e1⟩ := mput_some (d := .v uk) p1 (by rw [← hxk]; exact p5) p6
     simp only [e1] at hK
     have hjl : j < arr.size := (Array.getElem?_eq_some_iff.1 hx').1
     refine ⟨_, C, _, hK, ?_, I.mapWritten (P := P) hl q1 q2 (mapRun_set (arr := arr.eraseIdxIfInBounds j) (clock := clock) q3) ⟨?_, MapKept.stamped_erase q7 j⟩ fun m c x hj hx => ?_⟩
     ·simp [Builtin.delete_, run_underlying hu, hg, checkKey_ok hkd hk', Instr.findKey, run_underlying hkd, p4, hset]
     ·rw [List.length_eraseIdx, if_pos (by omega), Array.eraseIdxIfInBounds, dif_pos hjl, Array.size_eraseIdx, q4]
     ·have ha : (arr.eraseIdxIfInBounds j)[m]? = if m < j then arr[m]? else arr[m + 1]? := by
       rw [Array.eraseIdxIfInBounds, dif_pos hjl, Array.getElem?_eraseIdx]
      rw [ha] at hx
      rw [List.getElem?_eraseIdx] at hj
      split at hj
      ·rename_i hm; rw [if_pos hm] at hx; exact q5 m c x hj hx
      ·rename_i hm; rw [if_neg hm] at hx; exact q5 (m + 1) c x hj hx
  ·exact h.elim
 ·exact h.elim
end
end Go.Eng
set_option linter.unusedSectionVars false
namespace Go.Eng
variable {P : Program}
def copyK (S : St) (dx dy : D) (k : St → D → Prop) : Prop :=
 match dx with
 | .own s g =>
  match rowOf S s g, srcOf S 1 dy with
  | some (e, k1, es), some es2 => k1 = 1 ∧ oneLL es2 = true ∧ k (S.hput s g (.row e 1 (es2.take es.length ++ es.drop es2.length))) (.v (.int .i64 (min es2.length es.length : Nat)))
  | _, _ => False
 | .sub s g j =>
  match rowOf S s g, srcOf S 1 dy with
  | some (e, k1, es), some es2 => k1 = 1 ∧ oneLL es2 = true ∧ es2 ≠ [] ∧ j + es2.length ≤ es.length ∧ k (S.hput s g (.row e 1 (es.take j ++ es2 ++ es.drop (j + es2.length)))) (.v (.int .i64 es2.length))
  | _, _ => False
 | _ => False
section
variable {w0 : World} {B : Nat → Nat → Prop} {C0 : Ctx} {n : Nat} {S : St} {C : Ctx} {a : Act} {w : World}
theorem Inv.same (I : Inv w0 B C0 n S C a w) {s g : Nat} {x : Blk} (hx : look S.heap s = some (g, x)) : Inv w0 B C0 n (S.hput s g x) C a w := by
 have key : ∀ s' g' x', look (S.hput s g x).heap s' = some (g', x') → look S.heap s' = some (g', x') := fun s' g' x' h => by
  rw [look_hput] at h
  split at h
  ·rename_i e; subst e
   simp only [Option.some.injEq, Prod.mk.injEq] at h
   obtain ⟨rfl, rfl⟩ := h
   exact hx
  ·exact h
 exact { I with heap := fun s' g' b h => I.heap s' g' b (key _ _ _ h), mine := fun s' g' b x' u h => I.mine s' g' b x' u (key _ _ _ h), ents := fun s' g' x' y h => I.ents s' g' x' y (key _ _ _ h) }
theorem copysub_ok (I : Inv w0 B C0 n S C a w) {t t2 ty e e' : TypeId} {by' : Nat} (hs : slOf P t = some (e, 1, by')) {s g j : Nat} {es es2 : List (List D)} (hlk : look S.heap s = some (g, .row e' 1 es)) {ux uy : Value} (hrx : Rep C w (.sub s g j) ux) {dy : D} (hsrc : srcOf S 1 dy = some es2) (hry : Rep C w dy uy)
  (hone : ∀ e ∈ es2, ∀ c ∈ e, oneD c = true) (hne : es2 ≠ []) (hfit : j + es2.length ≤ es.length) :
  ∃ w', (Builtin.copy_ #[t, t2] ty #[ux, uy]).run P w = .ok (.int .i64 es2.length) w' ∧ Inv w0 B C0 n (S.hput s g (.row e' 1 (es.take j ++ es2 ++ es.drop (j + es2.length)))) C a w' := by
 obtain ⟨inf, hu, hi, hsz, _⟩ := slOf_spec hs
 have hsize : (P.info? e).map (·.size) = some 1 := by simp [hi, hsz]
 obtain ⟨u', xs, q1, q2, hown, hk, hall⟩ := I.heap s g _ hlk
 obtain ⟨ao, cap2, rfl, hk2, hne2⟩ := src_ok (sz := 1) I (es := es2) (by decide) hsrc hry hone
 obtain ⟨ad, news, rfl, hnl, hnc, hno, hnr⟩ := hne2 hne
 cases hrx with
 | sub _ _ _ b n' c h hj' =>
 rw [q1] at h
 simp only [Option.some.injEq] at h
 subst h
 rcases hown.2 with ⟨hnil, hz0⟩ | ⟨gb, cap, cur, hvv, hz, hg, hnc1, hcm, hcs, htake⟩
 ·cases hnil
 simp only [Value.slice.injEq, Option.some.injEq, Addr.mk.injEq, and_true] at hvv
 obtain ⟨rfl, rfl, rfl⟩ := hvv
 have hnl : news.length = es2.length := by omega
 have hrun := run_copy_row (P := P) w t t2 ty e b j (es.length - j) (c - j) ad es2.length cap2 cur e' news hu hsize hg (by rw [hnl]; exact (Nat.min_eq_left (by omega)).symm) hnc (by omega) hno
 let cells := cur.toList.take j ++ news ++ cur.toList.drop (j + news.length)
 have hlen : cells.length = cur.size := by simp [cells]; omega
 have hlen2 : (es.take j ++ es2 ++ es.drop (j + es2.length)).length = es.length := by simp; omega
 have hw := I.write (w' := w.setRow b cells.toArray) (x' := .row e' 1 (es.take j ++ es2 ++ es.drop (j + es2.length))) hlk q1 q2 rfl (fun k hk => setRow_other w b k _ hk) (by simp [World.setRow]) rfl rfl rfl
  (fun ex => ⟨_, cells.take (es.length * 1), q1, q2, ⟨by rw [hlen2]; simp [hlen]; omega, .inr ⟨b, c, cells.toArray, by rw [hlen2], hz, setRow_heap w b cur _ e' (0, 0) hg, by rw [hlen2]; exact hnc1, hcm, by simp [hlen, hcs], by rw [hlen2]⟩⟩,
   fun e1 he1 => by
    rcases List.mem_append.1 he1 with h | h
    ·rcases List.mem_append.1 h with h | h
     ·exact hk e1 (List.mem_of_mem_take h)
     ·exact hk2 e1 h
    ·exact hk e1 (List.mem_of_mem_drop h),
   fun i' jj e1 cc x hi' hj hx => by
    have hi1 : i' < es.length := by rw [← hlen2]; exact (List.getElem?_eq_some_iff.1 hi').1
    have hj1 : e1.length = 1 := by
     rcases List.mem_append.1 (List.mem_of_getElem? hi') with h | h
     ·rcases List.mem_append.1 h with h | h
      ·exact hk e1 (List.mem_of_mem_take h)
      ·exact hk2 e1 h
     ·exact hk e1 (List.mem_of_mem_drop h)
    have hj0 : jj = 0 := by have := (List.getElem?_eq_some_iff.1 hj).1; omega
    subst hj0
    have old : ∀ k, k < es.length → ∀ v, cur.toList[k]? = some v → xs[k * 1 + 0]? = some v := fun k hk v hv => by
     rw [← htake, List.getElem?_take, if_pos (by omega)]
     simpa using hv
    rw [List.getElem?_take, if_pos (by omega)] at hx
    simp only [cells, Nat.mul_one, Nat.add_zero] at hx
    rw [List.append_assoc, List.getElem?_append] at hx hi'
    simp only [List.length_take, Array.length_toList] at hx hi'
    by_cases h1 : i' < j
    ·rw [if_pos (by omega)] at hx hi'
     rw [List.getElem?_take, if_pos h1] at hx hi'
     have := hall i' 0 e1 cc x hi' hj (old i' hi1 x hx)
     exact ⟨this.1.mono ex, this.2⟩
    ·rw [if_neg (by omega)] at hx hi'
     rw [List.getElem?_append] at hx hi'
     rw [show min j cur.size = j by omega] at hx
     rw [show min j es.length = j by omega] at hi'
     by_cases h2 : i' - j < es2.length
     ·rw [if_pos (by omega)] at hx hi'
      exact ⟨(hnr (i' - j) 0 e1 cc x hi' hj (by simpa using hx)).mono ex, hno x (List.mem_of_getElem? hx)⟩
     ·rw [if_neg (by omega)] at hx hi'
      rw [List.getElem?_drop] at hx hi'
      rw [show j + news.length + (i' - j - news.length) = i' by omega] at hx
      rw [show j + es2.length + (i' - j - es2.length) = i' by omega] at hi'
      have := hall i' 0 e1 cc x hi' hj (old i' hi1 x hx)
      exact ⟨this.1.mono ex, this.2⟩⟩)
 refine ⟨_, ?_, hw.1⟩
 have e1 : goInt (news.length : Nat) = .int .i64 (es2.length : Nat) := by rw [hnl]; rfl
 rw [hrun, e1]
theorem copy_ok (I : Inv w0 B C0 n S C a w) {t t2 ty e : TypeId} {by' : Nat} (hs : slOf P t = some (e, 1, by')) {dx dy : D} {ux uy : Value} {k : St → D → Prop} (h : copyK S dx dy k) (hrx : Rep C w dx ux) (hry : Rep C w dy uy) :
  ∃ S' C' d u w', k S' d ∧ (Builtin.copy_ #[t, t2] ty #[ux, uy]).run P w = .ok u w' ∧ Rep C' w' d u ∧ Inv w0 B C0 n S' C' a w' := by
 obtain ⟨inf, hu, hi, hsz, _⟩ := slOf_spec hs
 have hsize : (P.info? e).map (·.size) = some 1 := by simp [hi, hsz]
 unfold copyK at h
 cases dx with
 | own s g =>
  simp only at h
  split at h
  ·rename_i e' k1 es es2 hro hsrc
   obtain ⟨rfl, hone, hK⟩ := h
   have hone := oneLL_ok hone
   have hlk := rowOf_spec hro
   obtain ⟨u', xs, q1, q2, hown, hk, hall⟩ := I.heap s g _ hlk
   cases hrx with
   | own _ _ _ hv1 _ =>
    rw [q1] at hv1
    simp only [Option.some.injEq] at hv1
    subst hv1
    obtain ⟨ao, cap2, rfl, hk2, hne2⟩ := src_ok I (by decide) hsrc hry hone
    obtain ⟨ao1, cap1, rfl, hc1, hc2⟩ := ownsRow_slice hown
    by_cases h0 : min es2.length es.length = 0
    ·have hes : es2.take es.length ++ es.drop es2.length = es := by
      have : es2 = [] ∨ es = [] := by
       cases es2 <;> cases es <;> simp at h0 ⊢
      rcases this with h | h <;> simp [h]
     rw [hes, h0] at hK
     exact ⟨_, C, _, _, w, hK, run_copy_none w t t2 ty e ao1 ao es.length cap1 es2.length cap2 hu hsize h0, .v _, I.same hlk⟩
    ·have hne : es2 ≠ [] := by intro h; simp [h] at h0
     obtain ⟨ad, news, rfl, hnl, hnc, hno, hnr⟩ := hne2 hne
     rcases hown.2 with ⟨hnil, hz0⟩ | ⟨gb, cap, cur, hvv, hz, hg, hnc1, hcm, hcs, htake⟩
     ·rw [hz0] at h0; simp at h0
     simp only [Value.slice.injEq] at hvv
     obtain ⟨rfl, _, rfl⟩ := hvv
     have hcl : (news.take es.length).length = min es2.length es.length := by simp [hnl]; omega
     have hrun := run_copy_row (P := P) w t t2 ty e gb 0 es.length cap1 ad es2.length cap2 cur e' (news.take es.length) hu hsize hg hcl
      (fun j v hj => hnc j v (by rw [List.getElem?_take] at hj; split at hj <;> first | exact hj | cases hj)) (by rw [hcl, hcs]; simp; omega) (fun v hv => hno v (List.mem_of_mem_take hv))
     rw [hcl] at hrun
     simp only [List.take_zero, List.nil_append, Nat.zero_add] at hrun
     let m := min es2.length es.length
     let cells := news.take es.length ++ cur.toList.drop m
     have hlen : cells.length = cur.size := by simp [cells, m, hnl]; omega
     have hw := I.write (w' := w.setRow gb cells.toArray) (x' := .row e' 1 (es2.take es.length ++ es.drop es2.length)) hlk q1 q2 rfl (fun k hk => setRow_other w gb k _ hk) (by simp [World.setRow]) rfl rfl rfl
      (fun ex => ⟨_, cells.take (es.length * 1), q1, q2, ⟨by simp [hlen]; omega, .inr ⟨gb, cap1, cells.toArray, by simp; omega, hz, setRow_heap w gb cur _ e' (0, 0) hg, by simp; omega, hcm, by simp [hlen, hcs], by simp; omega⟩⟩,
       fun e1 he1 => by
        rcases List.mem_append.1 he1 with h | h
        ·exact hk2 e1 (List.mem_of_mem_take h)
        ·exact hk e1 (List.mem_of_mem_drop h),
       fun i j e1 c x hi hj hx => by
        have hi1 : i < (es2.take es.length ++ es.drop es2.length).length := (List.getElem?_eq_some_iff.1 hi).1
        simp only [List.length_append, List.length_take, List.length_drop] at hi1
        have hj1 : e1.length = 1 := by
         rcases List.mem_append.1 (List.mem_of_getElem? hi) with h | h
         ·exact hk2 e1 (List.mem_of_mem_take h)
         ·exact hk e1 (List.mem_of_mem_drop h)
        have hj0 : j = 0 := by have := (List.getElem?_eq_some_iff.1 hj).1; omega
        subst hj0
        rw [List.getElem?_take, if_pos (by omega)] at hx
        simp only [cells] at hx
        rw [List.getElem?_append] at hx hi
        simp only [List.length_take, hnl] at hx hi
        by_cases him : i < min es.length es2.length
        ·rw [if_pos (by omega)] at hx hi
         rw [List.getElem?_take, if_pos (by omega)] at hx hi
         exact ⟨(hnr i 0 e1 c x hi hj hx).mono ex, hno x (List.mem_of_getElem? hx)⟩
        ·rw [if_neg (by omega)] at hx hi
         rw [List.getElem?_drop] at hx hi
         have e2 : es2.length + (i - min es.length es2.length) = i := by omega
         have e3 : m + (i * 1 + 0 - min es.length (es2.length * 1)) = i := by simp only [m]; omega
         rw [e2] at hi
         rw [e3] at hx
         have hx2 : xs[i * 1 + 0]? = some x := by
          rw [← htake, List.getElem?_take, if_pos (by omega)]
          simpa using hx
         have := hall i 0 e1 c x hi hj hx2
         exact ⟨this.1.mono ex, this.2⟩⟩)
     exact ⟨_, C, _, _, _, hK, hrun, .v _, hw.1⟩
  ·exact h.elim
 | sub s g j =>
  simp only at h
  split at h
  ·rename_i e' k1 es es2 hro hsrc
   obtain ⟨rfl, hone, hne, hfit, hK⟩ := h
   obtain ⟨w', hrun, I'⟩ := copysub_ok (t2 := t2) (ty := ty) I hs (rowOf_spec hro) hrx hsrc hry (oneLL_ok hone) hne hfit
   exact ⟨_, C, _, _, w', hK, hrun, .v _, I'⟩
  ·exact h.elim
 | _ => exact h.elim
end
end Go.Eng
set_option linter.unusedSectionVars false
namespace Go.Eng
variable {P : Program} {n : Nat} {S : St}
section
variable {w0 : World} {B : Nat → Nat → Prop} {C0 : Ctx} {C : Ctx} {a : Act} {w : World}
theorem cut_own (I : Inv w0 B C0 n S C a w) {t e : TypeId} {sz by' : Nat} (hs : slOf P t = some (e, sz, by')) {s g : Nat} {es : List (List D)} {u : Value}
  (hlk : look S.heap s = some (g, .row e sz es)) (hu : C.val s g = some u) {m : Int} (h0 : 0 ≤ m) (hm : m ≤ es.length) :
  ∃ v' g' C', (∀ w', (Instr.sliceAt t u none (some (.int .i64 m)) none).run P w' = .ok v' w') ∧ C'.val s g' = some v' ∧ v'.oneCell' = true ∧ Inv w0 B C0 n (S.hput s g' (.row e sz (es.take m.toNat))) C' a w ∧ Ext C w C' w := by
 obtain ⟨inf, h1, h2, h3, _⟩ := slOf_spec hs
 subst h3
 obtain ⟨u', xs, hv, hl, hown, hk, hall⟩ := I.heap s g _ hlk
 rw [hu] at hv
 simp only [Option.some.injEq] at hv
 subst hv
 have hb : 0 ≤ (none : Option Int).getD 0 ∧ (none : Option Int).getD 0 ≤ (some m).getD es.length ∧ (some m).getD es.length ≤ es.length := by simp; omega
 have hlen : (es.take m.toNat).length = m.toNat := by simp; omega
 have hw0 : w.grownBy w u.ownBlock := ⟨rfl, rfl, rfl, Nat.le_refl _, fun _ _ _ => rfl⟩
 have hall' : ∀ (i j : Nat) e' c x, (es.take m.toNat)[i]? = some e' → e'[j]? = some c → (xs.take (m.toNat * inf.size))[i * inf.size + j]? = some x → Rep C w c x ∧ x.oneCell' = true := fun i j e' c x hi hj hx => by
  rw [List.getElem?_take] at hi hx
  split at hi
  ·split at hx
   ·exact hall i j e' c x hi hj hx
   ·cases hx
  ·cases hi
 rcases hown.2 with ⟨rfl, hn0⟩ | ⟨gb, cap, cur, rfl, hz, hg, hnc, hcm, hcs, htake⟩
 ·have hm0 : m = 0 := by omega
  subst hm0
  have hes : es = [] := List.eq_nil_of_length_eq_zero hn0
  subst hes
  obtain ⟨g', C', I', hv', e'⟩ := I.regrow (v' := .slice none 0 0) (x' := .row e inf.size []) hlk hu hl rfl rfl hw0 (.inl rfl) (fun k hk' => by simp [Value.ownBlock] at hk') (fun C' g' ex hv hl =>
   ⟨_, [], hv, hl, ⟨by simp, .inl ⟨rfl, rfl⟩⟩, by simp, fun i j e' c x hi => by simp at hi⟩)
  refine ⟨.slice none 0 0, g', C', fun w' => ?_, hv', rfl, I', e'⟩
  have := run_bounds (P := P) (isS := true) (len := 0) (cap := 0) (lo := none) (hi := some 0) (k1 := .i64) (k2 := .i64) (Nat.le_refl _) (by simp) w'
  simp at this
  simp [Instr.sliceAt, Instr.slice, run_underlying h1, this, run_sizeOf' h2]
 ·have hxl : xs.length = es.length * inf.size := hown.1
  have hle : m.toNat * inf.size ≤ es.length * inf.size := Nat.mul_le_mul_right _ (by omega)
  obtain ⟨g', C', I', hv', e'⟩ := I.regrow (v' := .slice (some ⟨gb, 0, none⟩) m.toNat cap) (x' := .row e inf.size (es.take m.toNat)) hlk hu hl rfl rfl hw0 (.inl rfl)
   (fun k hk' => by simp [Value.ownBlock] at hk'; subst hk'; exact (Array.getElem?_eq_some_iff.1 hg).1) (fun C' g' ex hv hl =>
   ⟨_, xs.take (m.toNat * inf.size), hv, hl, ⟨by rw [hlen, List.length_take, hxl]; omega, .inr ⟨gb, cap, cur, by rw [hlen], hz, hg, by omega, hcm, hcs, by rw [hlen, ← htake, List.take_take, Nat.min_eq_left hle]⟩⟩,
    fun x hx => hk x (List.mem_of_mem_take hx), fun i j e' c x hi hj hx => by
     have := hall' i j e' c x hi hj hx
     exact ⟨this.1.mono ex, this.2⟩⟩)
  refine ⟨.slice (some ⟨gb, 0, none⟩) m.toNat cap, g', C', fun w' => ?_, hv', rfl, I', e'⟩
  have := run_bounds (P := P) (isS := true) (len := es.length) (cap := cap) (lo := none) (hi := some m) (k1 := .i64) (k2 := .i64) hnc hb w'
  simp at this
  simp [Instr.sliceAt, Instr.slice, run_underlying h1, this, run_sizeOf' h2, Addr.add_lit]
end
end Go.Eng
set_option linter.unusedSectionVars false
namespace Go.Eng
variable {P : Program} [HasGlob P] [HasPan P]
def mlenK (P : Program) (S : St) (args : List Operand) (tys : List TypeId) (k : D → Prop) (h : Prop) : Prop :=
 match args, tys with
 | [.tmp x], [t] => match look S.slots x with
  | some (.own s g) => match look S.heap s with
   | some (g', .map es) => (mapOf P t).isSome = true ∧ g' = g ∧ k (.v (.int .i64 es.length))
   | _ => h
  | _ => h
 | _, _ => h
def stK (P : Program) [HasGlob P] [HasPan P] (n : Nat) (S : St) (o : Oper) (K : St → Prop) : Prop :=
 dstOk n o.dst ∧
 match o.op with
 | .alloc t =>
  match o.dst, zeroOf P t with
  | some t', some zs => zs.all Value.oneCell' = true ∧ ∀ g, K ((S.hput t' g (.box (zs.map .v))).put t' (.ptr t' g 0))
  | _, _ => False
 | .box _ x =>
  match o.dst with
  | some t' => evK true S x fun d => cellOk d = true ∧ (∀ c ∈ cellsOfD d, oneD c = true) ∧ ∀ g, K ((S.hput t' g (.box (cellsOfD d))).put t' (.ptr t' g 0))
  | none => False
 | .buildSlice t len parts =>
  match o.dst, slOf P t with
  | some t', some (e, sz, _) =>
   (zeroOf P e).isSome = true ∧ parts.toList.map (·.1) = List.range len ∧ len * sz ≤ 16777216 ∧ 0 < sz ∧
    evsK true S (parts.toList.map (·.2)) fun ds => (∀ d ∈ ds, cellOk d = true ∧ (cellsOfD d).length = sz ∧ ∀ c ∈ cellsOfD d, oneD c = true) ∧
     frzL S (ds.map cellsOfD) fun S' es => ∀ g, K ((S'.hput t' g (.row e sz es)).put t' (.own t' g))
  | _, _ => False
 | .makeSlice t x y =>
  match o.dst, slOf P t with
  | some t', some (e, sz, by') =>
   match zeroOf P e with
   | some zs => zs.all Value.oneCell' = true ∧ evK true S x fun dx => evK true S y fun dy => ∃ l c : Int, dx = .v (.int .i64 l) ∧ dy = .v (.int .i64 c) ∧ 0 ≤ l ∧ l ≤ c ∧ c * (by' + 1) ≤ 281474976710656 ∧
     ∀ g, K ((S.hput t' g (.row e sz (List.replicate l.toNat (zs.map .v)))).put t' (.own t' g))
   | none => False
  | _, _ => False
 | .store t x y =>
  o.dst = none ∧ match tyOf P t with
  | some (_, sz) => evK true S x fun dx => evK true S y fun dy => cellOk dy = true ∧ (cellsOfD dy).length = sz ∧ (∀ c ∈ cellsOfD dy, oneD c = true) ∧ putK S dx (cellsOfD dy) K
  | none => False
 | .makeMap _ none => match o.dst with
  | some t' => ∀ g, K ((S.hput t' g (.map [])).put t' (.own t' g))
  | none => False
 | .mapUpdate t m x y =>
  o.dst = none ∧ match mapOf P t with
  | some (tag, _) => evK true S m fun dm => evK true S x fun dk => evK true S y fun dv => mapW S tag dm dk (fun key es => mput tag key dv es) K
  | none => False
 | .insert t m x y =>
  o.dst = none ∧ match mapOf P t with
  | some (tag, _) => evK true S m fun dm => evK true S x fun dk => evK true S y fun dv => mapW S tag dm dk (fun key es => mput tag key dv es) K
  | none => False
 | .call { callee := .builtin .delete, args, argTypes } =>
  match args.toList, argTypes.toList with
  | [m, x], [t, _] => match mapOf P t with
   | some (tag, _) => evK true S m fun dm => evK true S x fun dk => mapW S tag dm dk (fun key es => mdel tag key es) fun S' => K (S'.set o.dst (.v (.tuple #[])))
   | none => False
  | _, _ => False
 | .call { callee := .builtin .len, args, argTypes } => mlenK P S args.toList argTypes.toList (fun d => K (S.set o.dst d)) (qK P true S (.call { callee := .builtin .len, args, argTypes }) fun d => K (S.set o.dst d))
 | .call { callee := .builtin .copy, args, argTypes } =>
  match args.toList, argTypes.toList with
  | [x, y], [t, _] => match slOf P t with
   | some (_, sz, _) => sz = 1 ∧ evK true S x fun dx => evK true S y fun dy => copyK S dx dy fun S' d => K (S'.set o.dst d)
   | none => False
  | _, _ => False
 | .call { callee := .builtin .append, args, argTypes } =>
  match o.dst, args.toList, argTypes.toList with
  | some t', [x, y], [t, t2] =>
   t2 = t ∧ match slOf P t with
   | some (e, sz, by') => (zeroOf P e).isSome = true ∧ 0 < sz ∧ evK true S x fun dx => evK true S y fun dy => appK S e sz by' t' dx dy K
   | none => False
  | _, _, _ => False
 | .call { callee := .value fx, args, argTypes } =>
  evK true S fx fun df => evsK true S args.toList fun ds => CallA P df ds argTypes.toList S fun S' r => K (S'.set o.dst r)
 | .convert src dst x =>
  match bytesOf P src dst with
  | some _ => evK true S x fun dx => convK src dst S dx fun S' d => K (S'.set o.dst d)
  | none => evK true S x fun dx => match dx with
   | .sl _ _ => strOf P src dst = true ∧ strK S dx fun d => K (S.set o.dst d)
   | .own _ _ => strOf P src dst = true ∧ strK S dx fun d => K (S.set o.dst d)
   | .v (.slice none 0 0) => strOf P src dst = true ∧ strK S dx fun d => K (S.set o.dst d)
   | _ => qK P true S (.convert src dst x) fun d => K (S.set o.dst d)
 | .slice t x none (some y) none => evK true S x fun dx => match dx with
  | .own s g => match rowOf S s g with
   | some (e', k, es) => match o.dst, slOf P t with
    | some t', some (e, sz, _) => e' = e ∧ k = sz ∧ evK true S y fun dy => ∃ m : Int, dy = .v (.int .i64 m) ∧ 0 ≤ m ∧ m ≤ es.length ∧ ∀ g', K ((S.hput s g' (.row e sz (es.take m.toNat))).put t' (.own s g'))
    | _, _ => False
   | none => qK P true S (.slice t x none (some y) none) fun d => K (S.set o.dst d)
  | _ => qK P true S (.slice t x none (some y) none) fun d => K (S.set o.dst d)
 | op => qK P true S op fun d => K (S.set o.dst d)
section
variable {w0 : World} {B : Nat → Nat → Prop} {C0 : Ctx} {n : Nat} {S : St} {C : Ctx} {a : Act} {w w1 : World}
theorem arr_of_list {α : Type} {x : Array α} {l : List α} (h : x.toList = l) : x = l.toArray := by rw [← h]
theorem wp_fst {o : Oper} {K : St → Prop} {R : St → Ctx → Act → World → Prop} {Q : Exit → Act → World → Prop} (h : o.wp P a w (fun a' w' => ∃ S' C', K S' ∧ Inv w0 B C0 n S' C' a' w' ∧ R S' C' a' w') Q) : o.wp P a w (NextOk w0 B C0 n K) Q :=
 Oper.wp_mono (fun _ _ ⟨S', C', h1, h2, _⟩ => ⟨S', C', h1, h2⟩) h
theorem st_ok (E : Env P w0 B C0) (I : Inv w0 B C0 n S C a w) {o : Oper} {K : St → Prop} (h : stK P n S o K) (Q : Exit → Act → World → Prop) (hX : PanQ P w0 B C0 n Q) : o.wp P a w (NextOk w0 B C0 n K) Q := by
 obtain ⟨dst, op, ty, pos, after, guard⟩ := o
 obtain ⟨hd, h⟩ := h
 cases op with
 | alloc t =>
  cases dst with
  | none => exact h.elim
  | some t' =>
   simp only at h
   cases hz : zeroOf P t with
   | none => rw [hz] at h; exact h.elim
   | some zs => rw [hz] at h; exact wp_fst (alloc_step I rfl rfl hd hz h.1 h.2 Q)
 | box t x =>
  cases dst with
  | none => exact h.elim
  | some t' => exact wp_fst (box_step I rfl rfl hd h Q)
 | buildSlice t len parts =>
  cases dst with
  | none => exact h.elim
  | some t' =>
   simp only at h
   cases hs : slOf P t with
   | none => rw [hs] at h; exact h.elim
   | some p =>
    obtain ⟨e, sz, by'⟩ := p
    rw [hs] at h
    obtain ⟨hz, h1, h2, h3, h4⟩ := h
    obtain ⟨zs, hz⟩ := Option.isSome_iff_exists.1 hz
    exact wp_fst (buildSlice_step I rfl rfl hd hs hz h1 h2 h3 h4 Q)
 | makeSlice t x y =>
  cases dst with
  | none => exact h.elim
  | some t' =>
   simp only at h
   cases hs : slOf P t with
   | none => rw [hs] at h; exact h.elim
   | some p =>
    obtain ⟨e, sz, by'⟩ := p
    rw [hs] at h
    simp only at h
    cases hz : zeroOf P e with
    | none => rw [hz] at h; exact h.elim
    | some zs => rw [hz] at h; exact wp_fst (make_step I rfl rfl hd hs hz h.1 h.2 Q)
 | store t x y =>
  obtain ⟨hd0, h⟩ := h
  simp only at hd0
  subst hd0
  cases ht : tyOf P t with
  | none => rw [ht] at h; exact h.elim
  | some p =>
   obtain ⟨agg, sz⟩ := p
   rw [ht] at h
   obtain ⟨dx, hx, hrx⟩ := evK_ok I h
   obtain ⟨dy, ⟨q1, q2, q3, q4⟩, hry⟩ := evK_ok I hx
   obtain ⟨S', C', w', hK, hrun, I'⟩ := store_ok I ht (hrx rfl) (hry rfl) q1 q2 q3 q4
   refine wp_skp (w' := w') ?_ ⟨S', C', hK, I'⟩
   simp [execOp, hrun]
 | makeMap t r =>
  cases r with
  | some _ => exact quiet_step I hd h Q
  | none =>
   simp only at h
   cases dst with
   | none => exact h.elim
   | some t' => exact wp_fst (R := fun _ _ _ _ => True) (Oper.wp_mono (fun a' w' ⟨S', C', h1, h2, _⟩ => ⟨S', C', h1, h2, trivial⟩) (makeMap_step I rfl rfl hd h Q))
 | mapUpdate t m x y =>
  obtain ⟨hd0, h⟩ := h
  simp only at hd0
  subst hd0
  cases ht : mapOf P t with
  | none => rw [ht] at h; exact h.elim
  | some p =>
   obtain ⟨tag, e⟩ := p
   rw [ht] at h
   obtain ⟨dm, hm, hrm⟩ := evK_ok I h
   obtain ⟨dk, hk, hrk⟩ := evK_ok I hm
   obtain ⟨dv, hv, hrv⟩ := evK_ok I hk
   obtain ⟨S', C', w', hK, hrun, I'⟩ := mapUpdate_ok I ht hv (hrm rfl) (hrk rfl) (hrv rfl)
   refine wp_skp (w' := w') ?_ ⟨S', C', hK, I'⟩
   simp [execOp, hrun]
 | insert t m x y =>
  obtain ⟨hd0, h⟩ := h
  simp only at hd0
  subst hd0
  cases ht : mapOf P t with
  | none => rw [ht] at h; exact h.elim
  | some p =>
   obtain ⟨tag, e⟩ := p
   rw [ht] at h
   obtain ⟨dm, hm, hrm⟩ := evK_ok I h
   obtain ⟨dk, hk, hrk⟩ := evK_ok I hm
   obtain ⟨dv, hv, hrv⟩ := evK_ok I hk
   obtain ⟨S', C', w', hK, hrun, I'⟩ := mapUpdate_ok I ht hv (hrm rfl) (hrk rfl) (hrv rfl)
   refine wp_skp (w' := w') ?_ ⟨S', C', hK, I'⟩
   simp [execOp, hrun]
 | convert src dst' x =>
  simp only at h
  cases hb : bytesOf P src dst' with
  | some e => rw [hb] at h; exact conv_step I rfl hd hb h Q
  | none =>
   rw [hb] at h
   simp only at h
   obtain ⟨dx, hx, hr⟩ := evK_ok I h
   split at hx
   ·exact str_step I rfl hd hx.1 (hr rfl) hx.2 Q
   ·exact str_step I rfl hd hx.1 (hr rfl) hx.2 Q
   ·exact str_step I rfl hd hx.1 (hr rfl) hx.2 Q
   ·exact quiet_step I hd hx Q
 | call cl =>
  obtain ⟨callee, args, argTypes⟩ := cl
  cases callee with
  | value fx => exact call_stepA E I rfl hd h Q hX
  | invoke r m => exact quiet_step I hd h Q
  | builtin b =>
   cases b with
   | delete =>
    simp only at h
    cases ha : args.toList with
    | nil => rw [ha] at h; exact h.elim
    | cons m l =>
     cases l with
     | nil => rw [ha] at h; exact h.elim
     | cons x l =>
      cases l with
      | cons _ _ => rw [ha] at h; exact h.elim
      | nil =>
       cases ht : argTypes.toList with
       | nil => rw [ha, ht] at h; exact h.elim
       | cons t l =>
        cases l with
        | nil => rw [ha, ht] at h; exact h.elim
        | cons t2 l =>
         cases l with
         | cons _ _ => rw [ha, ht] at h; exact h.elim
         | nil =>
          rw [ha, ht] at h
          simp only at h
          cases hmo : mapOf P t with
          | none => rw [hmo] at h; exact h.elim
          | some p =>
           obtain ⟨tag, e⟩ := p
           rw [hmo] at h
           obtain ⟨dm, hm, hrm⟩ := evK_ok I h
           obtain ⟨dk, hk, hrk⟩ := evK_ok I hm
           obtain ⟨S', C', w', hK, hrun, I'⟩ := mapDelete_ok (k2 := t2) (ty := ty) I hmo hk (hrm rfl) (hrk rfl)
           have e1 := arr_of_list ha
           have e2 := arr_of_list ht
           subst e1 e2
           refine wp_val (u := .tuple #[]) (w' := w') ?_ ⟨_, C', hK, I'.set (dstOk_spec hd) (.v _)⟩
           simp [execOp, resolve, invoke, builtin, hrun]
   | len =>
    simp only [mlenK] at h
    split at h
    ·rename_i x t ha ht
     split at h
     ·rename_i s g hl
      split at h
      ·rename_i g' es hh
       obtain ⟨hm, rfl, hK⟩ := h
       obtain ⟨⟨tag, e⟩, hm⟩ := Option.isSome_iff_exists.1 hm
       obtain ⟨kt, hu, _⟩ := mapOf_spec hm
       obtain ⟨r, arr, clock, q1, q2, q3, q4, q5⟩ := I.heap s _ _ hh
       obtain ⟨u, hu1, hr⟩ := I.slots x _ hl
       cases hr with
       | own _ _ _ hv _ =>
        rw [q1] at hv
        simp only [Option.some.injEq] at hv
        subst hv
        have e1 := arr_of_list ha
        have e2 := arr_of_list ht
        subst e1 e2
        refine wp_val (u := .int .i64 es.length) (w' := w) ?_ ⟨_, C, hK, I.set (dstOk_spec hd) (.v _)⟩
        have hg : (getObj r).run P w = .ok (.map arr clock) w := by simp [getObj, Sem.run, q3]
        simp [execOp, resolve, invoke, builtin, Builtin.len_, run_underlying hu, Act.eval, hu1, hg, goInt, q4]
      ·exact quiet_step I hd h Q
     ·exact quiet_step I hd h Q
    ·exact quiet_step I hd h Q
   | copy =>
    simp only at h
    cases ha : args.toList with
    | nil => rw [ha] at h; exact h.elim
    | cons x l =>
     cases l with
     | nil => rw [ha] at h; exact h.elim
     | cons y l =>
      cases l with
      | cons _ _ => rw [ha] at h; exact h.elim
      | nil =>
       cases ht : argTypes.toList with
       | nil => rw [ha, ht] at h; exact h.elim
       | cons t l =>
        cases l with
        | nil => rw [ha, ht] at h; exact h.elim
        | cons t2 l =>
         cases l with
         | cons _ _ => rw [ha, ht] at h; exact h.elim
         | nil =>
          rw [ha, ht] at h
          simp only at h
          cases hs : slOf P t with
          | none => rw [hs] at h; exact h.elim
          | some p =>
           obtain ⟨e, sz, by'⟩ := p
           rw [hs] at h
           obtain ⟨rfl, h⟩ := h
           obtain ⟨dx, hx, hrx⟩ := evK_ok I h
           obtain ⟨dy, hy, hry⟩ := evK_ok I hx
           obtain ⟨S', C', d, u, w', hK, hrun, hr, I'⟩ := copy_ok (t2 := t2) (ty := ty) I hs hy (hrx rfl) (hry rfl)
           have e1 := arr_of_list ha
           have e2 := arr_of_list ht
           subst e1 e2
           refine wp_val (u := u) (w' := w') ?_ ⟨_, C', hK, I'.set (dstOk_spec hd) hr⟩
           simp [execOp, resolve, invoke, builtin, hrun]
   | append =>
    cases dst with
    | none => exact h.elim
    | some t' =>
     simp only at h
     cases ha : args.toList with
     | nil => rw [ha] at h; exact h.elim
     | cons x l =>
      cases l with
      | nil => rw [ha] at h; exact h.elim
      | cons y l =>
       cases l with
       | cons _ _ => rw [ha] at h; exact h.elim
       | nil =>
        cases ht : argTypes.toList with
        | nil => rw [ha, ht] at h; exact h.elim
        | cons t l =>
         cases l with
         | nil => rw [ha, ht] at h; exact h.elim
         | cons t2 l =>
          cases l with
          | cons _ _ => rw [ha, ht] at h; exact h.elim
          | nil =>
           rw [ha, ht] at h
           obtain ⟨rfl, h⟩ := h
           have e1 := arr_of_list ha
           have e2 := arr_of_list ht
           subst e1 e2
           cases hs : slOf P t2 with
           | none => rw [hs] at h; exact h.elim
           | some p =>
            obtain ⟨e, sz, by'⟩ := p
            rw [hs] at h
            obtain ⟨hz, hpos, h⟩ := h
            obtain ⟨zs, hz⟩ := Option.isSome_iff_exists.1 hz
            exact wp_fst (append_step I rfl rfl hd hs hz hpos h Q)
   | _ => exact quiet_step I hd h Q
 | slice t x lo hi mx =>
  cases lo with
  | some _ => exact quiet_step I hd h Q
  | none =>
   cases mx with
   | some _ => cases hi <;> exact quiet_step I hd h Q
   | none =>
    cases hi with
    | none => exact quiet_step I hd h Q
    | some y =>
     simp only at h
     obtain ⟨dx, hx, hrx⟩ := evK_ok I h
     split at hx
     ·rename_i s g
      split at hx
      ·rename_i e' k es hrow
       cases dst with
       | none => exact hx.elim
       | some t' =>
        split at hx
        ·rename_i t1 e sz by' heq hs
         simp only [Option.some.injEq] at heq
         subst heq
         obtain ⟨rfl, rfl, hx⟩ := hx
         obtain ⟨dy, ⟨m, rfl, h0, hm, hK⟩, hry⟩ := evK_ok I hx
         have hu : C.val s g = some (a.eval x) := by
          have hr0 := hrx rfl
          cases hr0 with
          | own _ _ _ q1 q2 => exact q1
         obtain ⟨v', g', C', hrun, hv', hv1, I', e'⟩ := cut_own I hs (rowOf_spec hrow) hu h0 hm
         have hr1 := (hry rfl).v_inv
         refine wp_val (u := v') (w' := w) ?_ ⟨_, C', hK g', I'.set (dstOk_spec hd) (.own _ _ _ hv' hv1)⟩
         simp [execOp, resolve, hr1, hrun w]
        ·exact hx.elim
      ·exact quiet_step I hd hx Q
     ·exact quiet_step I hd hx Q
 | _ => exact quiet_step I hd h Q
/-! guards -/
def gcond (ops : List Oper) (S : St) (o : Oper) : Option Bool :=
 match o.guard with
 | none => some true
 | some (j, want) =>
  match (ops[j]?).bind (·.dst) with
  | some t =>
   match look S.slots t with
   | some (.v (.bool b)) => some (b == want)
   | some (.when c (.v (.bool b))) => some (c && (b == want))
   | some (.v (.tuple _)) => some false
   | _ => none
  | none => none
theorem gcond_ok (I : Inv w0 B C0 n S C a w) {ops : List Oper} {o : Oper} {c : Bool} (h : gcond ops S o = some c) : Region.wanted o (yielded ops.toArray a.tmps) = c := by
 unfold gcond at h
 unfold Region.wanted
 cases hg : o.guard with
 | none => rw [hg] at h; simp at h; rw [← h]
 | some p =>
  obtain ⟨j, want⟩ := p
  rw [hg] at h
  simp only at h ⊢
  cases ht : (ops[j]?).bind (·.dst) with
  | none => rw [ht] at h; cases h
  | some t =>
   rw [ht] at h
   simp only at h
   have hy : yielded ops.toArray a.tmps j = match a.tmps[t]? with | some (.bool b) => some b | _ => none := by
    unfold yielded
    have : (ops.toArray[j]?).bind (·.dst) = some t := by simpa using ht
    rw [this]
    rfl
   rw [hy]
   cases hl : look S.slots t with
   | none => rw [hl] at h; cases h
   | some d =>
    rw [hl] at h
    obtain ⟨u, hu, hr⟩ := I.slots t d hl
    rw [hu]
    split at h
    ·rename_i b heq
     simp only [Option.some.injEq] at heq h
     subst heq h
     obtain rfl := hr.v_inv
     cases b <;> cases want <;> rfl
    ·rename_i c' b heq
     simp only [Option.some.injEq] at heq h
     subst heq h
     cases hr with
     | whenT _ _ hr =>
      obtain rfl := hr.v_inv
      cases b <;> cases want <;> rfl
     | whenF => cases b <;> cases want <;> rfl
    ·rename_i xs heq
     simp only [Option.some.injEq] at heq h
     subst heq h
     obtain rfl := hr.v_inv
     rfl
    ·cases h
def AG (P : Program) [HasGlob P] [HasPan P] (n : Nat) (ops : List Oper) (o : Oper) (S : St) (K : St → Prop) : Prop :=
 ∀ {w0 : World} {B : Nat → Nat → Prop} {C0 : Ctx} {C : Ctx} {a : Act} {w : World}, Env P w0 B C0 → Inv w0 B C0 n S C a w → ∀ (N : Act → World → Prop) (Q : Exit → Act → World → Prop), (∀ a w, NextOk w0 B C0 n K a w → N a w) → PanQ P w0 B C0 n Q →
  if Region.wanted o (yielded ops.toArray a.tmps) then o.wp P a w N Q else N (a.put o.dst undef) w
theorem Oper.wp_mono' {o : Oper} {a : Act} {w : World} {N N' : Act → World → Prop} {Q : Exit → Act → World → Prop} (h : o.wp P a w N Q) (hN : ∀ a w, N a w → N' a w) : o.wp P a w N' Q := Oper.wp_mono hN h
theorem ag_true {ops : List Oper} {o : Oper} {K : St → Prop} (hg : gcond ops S o = some true) (h : stK P n S o K) : AG P n ops o S K := by
 intro w0 B C0 C a w E I N Q hN hX
 rw [gcond_ok I hg, if_pos rfl]
 exact Oper.wp_mono' (st_ok E I h Q hX) hN
theorem ag_false {ops : List Oper} {o : Oper} {K : St → Prop} (hg : gcond ops S o = some false) (hd : dstOk n o.dst) (h : K (S.set o.dst (.v undef))) : AG P n ops o S K := by
 intro w0 B C0 C a w E I N Q hN hX
 rw [gcond_ok I hg, if_neg (by simp)]
 exact hN _ _ ⟨_, C, h, I.set (dstOk_spec hd) (.v _)⟩
theorem ag_when {ops : List Oper} {o : Oper} {K : St → Prop} {c : Bool} (hg : gcond ops S o = some c) (hd : dstOk n o.dst) (h : qK P c S o.op fun d => K (S.set o.dst (.when c d))) : AG P n ops o S K := by
 intro w0 B C0 C a w E I N Q hN hX
 rw [gcond_ok I hg]
 obtain ⟨d, hk, hr⟩ := q_ok I h
 cases c with
 | true =>
  rw [if_pos rfl]
  obtain ⟨u, hu, hrun⟩ := hr rfl
  exact Oper.wp_mono' (wp_val (hrun w (fun _ => Same.refl w)) (N := NextOk w0 B C0 n K) ⟨_, C, hk, I.set (dstOk_spec hd) (.whenT _ _ hu)⟩) hN
 | false =>
  rw [if_neg (by simp)]
  exact hN _ _ ⟨_, C, hk, I.set (dstOk_spec hd) (.whenF _)⟩
def aops (P : Program) [HasGlob P] [HasPan P] (n : Nat) (ops : List Oper) : List Oper → St → (St → Prop) → Prop
 | [], S, K => K S
 | o :: rest, S, K =>
  match o.guard with
  | none => stK P n S o fun S' => aops P n ops rest S' K
  | some _ => AG P n ops o S fun S' => aops P n ops rest S' K
theorem aops_ok {ops : List Oper} : ∀ {l : List Oper} {S : St} {C : Ctx} {a : Act} {w : World} {K : St → Prop}, Env P w0 B C0 → Inv w0 B C0 n S C a w → aops P n ops l S K → ∀ (Q : Exit → Act → World → Prop), (∀ a w, NextOk w0 B C0 n K a w → Q .normal a w) → PanQ P w0 B C0 n Q → wpList P ops.toArray Q l a w := by
 intro l
 induction l with
 | nil => intro S C a w K E I h Q hQ _; exact hQ _ _ ⟨S, C, h, I⟩
 | cons o rest ih =>
  intro S C a w K E I h Q hQ hX
  unfold aops at h
  refine wpList_step fun K' hK' => ?_
  cases hg : o.guard with
  | none =>
   rw [hg] at h
   have hw : Region.wanted o (yielded ops.toArray a.tmps) = true := by simp [Region.wanted, hg]
   rw [if_pos hw]
   exact Oper.wp_mono' (st_ok E I h Q hX) (fun a w ⟨S', C', h', I'⟩ => hK' _ _ (ih E I' h' Q hQ hX))
  | some p =>
   rw [hg] at h
   exact h E I K' Q (fun a w ⟨S', C', h', I'⟩ => hK' _ _ (ih E I' h' Q hQ hX)) hX
end
/-! code -/
def AWp (P : Program) [HasGlob P] [HasPan P] (n : Nat) (c : Code) (S : St) (Q : Exit → St → Prop) : Prop :=
 ∀ ⦃w0 : World⦄ ⦃B : Nat → Nat → Prop⦄ ⦃C0 : Ctx⦄ ⦃C : Ctx⦄ ⦃a : Act⦄ ⦃w : World⦄, Env P w0 B C0 → Inv w0 B C0 n S C a w → c.wp P (fun e a w => (∃ S C, Q e S ∧ Inv w0 B C0 n S C a w) ∨ PanX P w0 B C0 n e a w) a w
section
variable {n : Nat} {S : St} {Q : Exit → St → Prop}
def thenQ (K : St → Prop) (Q : Exit → St → Prop) : Exit → St → Prop
 | .normal, S => K S
 | e, S => Q e S
def blockQ (id : Nat) (Q : Exit → St → Prop) : Exit → St → Prop
 | .exit id', S => if id' = id then Q .normal S else Q (.exit id') S
 | e, S => Q e S
theorem awp_skip (h : Q .normal S) : AWp P n .skip S Q := fun _ _ _ C _ _ E I => wp_skip (.inl ⟨S, C, h, I⟩)
theorem awp_exit {id : Nat} (h : Q (.exit id) S) : AWp P n (.exit id) S Q := fun _ _ _ C _ _ E I => wp_exit (.inl ⟨S, C, h, I⟩)
theorem awp_ret (h : Q .ret S) : AWp P n .ret S Q := fun _ _ _ C _ _ E I => wp_ret (.inl ⟨S, C, h, I⟩)
theorem awp_seq {x y : Code} (h : AWp P n x S (thenQ (fun S' => AWp P n y S' Q) Q)) : AWp P n (.seq x y) S Q := fun _ _ _ _ _ _ E I => wp_seq (wp_mono (h E I) fun e a w H => by
 rcases H with ⟨S', C', q, i⟩ | ⟨ch, C', rfl, hp, i⟩
 ·cases e <;> first | exact q E i | exact .inl ⟨S', C', q, i⟩
 ·exact .inr ⟨ch, C', rfl, hp, i⟩)
theorem awp_seq_k {x y : Code} (h : ∀ K : St → Prop, (∀ S', AWp P n y S' Q → K S') → AWp P n x S (thenQ K Q)) : AWp P n (.seq x y) S Q := awp_seq (h _ fun _ h => h)
theorem awp_block {id : Nat} {c : Code} (h : AWp P n c S (blockQ id Q)) : AWp P n (.block id c) S Q := fun _ _ _ _ _ _ E I => wp_block (wp_mono (h E I) fun e a w H => by
 rcases H with ⟨S', C', q, i⟩ | ⟨ch, C', rfl, hp, i⟩
 ·cases e with
  | exit id' =>
   simp only [Exit.inBlock, blockQ] at q ⊢
   split
   ·rename_i hid; rw [if_pos hid] at q; exact .inl ⟨S', C', q, i⟩
   ·rename_i hid; rw [if_neg hid] at q; exact .inl ⟨S', C', q, i⟩
  | _ => exact .inl ⟨S', C', q, i⟩
 ·exact .inr ⟨ch, C', rfl, hp, i⟩)
theorem awp_cond {c : Operand} {x y : Code} (h : evK true S c fun d => ∃ b, d = .v (.bool b) ∧ (b = true → AWp P n x S Q) ∧ (b = false → AWp P n y S Q)) : AWp P n (.cond c x y) S Q := fun _ _ _ _ _ _ E I => by
 obtain ⟨d, ⟨b, rfl, h1, h0⟩, hr⟩ := evK_ok I h
 refine wp_cond_split (hr rfl).v_inv (fun hb => h1 hb E I) (fun hb => h0 hb E I)
theorem awp_region {id : Nat} {ops : List Oper} (h : aops P n ops ops S (Q .normal)) : AWp P n (.region id ops.toArray false) S Q := fun _ _ _ _ _ _ E I =>
 wp_region_lit (aops_ok E I h _ (fun _ _ ⟨S, C, q, i⟩ => .inl ⟨S, C, q, i⟩) fun ch C _ _ hp i => .inr ⟨ch, C, rfl, hp, i⟩)
def Cov (S S' : St) : Prop := (∀ k d, look S'.slots k = some d → look S.slots k = some d) ∧ (∀ k x, look S'.heap k = some x → look S.heap k = some x)
theorem Inv.cov {w0 : World} {B : Nat → Nat → Prop} {C0 C : Ctx} {a : Act} {w : World} {S' : St} (I : Inv w0 B C0 n S C a w) (h : Cov S S') : Inv w0 B C0 n S' C a w :=
 ⟨I.size, I.defers, fun k d hk => I.slots k d (h.1 k d hk), fun s g b hb => I.heap s g b (h.2 s _ hb), fun s g b x u hx => I.mine s g b x u (h.2 s _ hx), I.apart, I.bound, I.fresh, I.frame, I.old, I.owned, I.kept, fun s g x y hx => I.ents s g x y (h.2 s _ hx), I.dead0, I.bound0⟩
def covL {α : Type} (l : List (Nat × α)) : List (Nat × α) → Prop
 | [] => True
 | (k, d) :: r => look l k = some d ∧ covL l r
theorem covL_ok {α : Type} {l : List (Nat × α)} : ∀ {r : List (Nat × α)}, covL l r → ∀ k d, look r k = some d → look l k = some d
 | [], _, k, d, h => by simp [look] at h
 | (k', d') :: r, hc, k, d, h => by
  simp only [look] at h
  split at h
  ·rename_i e; subst e; simp only [Option.some.injEq] at h; subst h; exact hc.1
  ·exact covL_ok hc.2 k d h
theorem cov_of {S S' : St} (h1 : covL S.slots S'.slots) (h2 : covL S.heap S'.heap) : Cov S S' := ⟨covL_ok h1, covL_ok h2⟩
theorem awp_cov {c : Code} {S' : St} (h : Cov S S') (hc : AWp P n c S' Q) : AWp P n c S Q := fun _ _ _ _ _ _ E I => hc E (I.cov h)
theorem awp_loop {σ : Type} {c : Code} (mk : σ → St) (inv : σ → Prop) (μ : σ → Nat) (x0 : σ) (h0 : Cov S (mk x0)) (hi : inv x0)
  (round : ∀ x, inv x → AWp P n c (mk x) (thenQ (fun S' => ∃ x', Cov S' (mk x') ∧ inv x' ∧ μ x' < μ x) Q)) : AWp P n (.loop c) S Q := by
 intro w0 B C0 C a w E I b k cs
 have key : ∀ m x, μ x = m → inv x → ∀ C a w, Inv w0 B C0 n (mk x) C a w →
   ∃ e a' w', ((∃ S C, Q e S ∧ Inv w0 B C0 n S C a' w') ∨ PanX P w0 B C0 n e a' w') ∧ Arrives P (lone (b.at a (.code c :: .inLoop c :: k)) cs w) b k cs e a' w' := by
  intro m
  induction m using Nat.strongRecOn with
  | _ m ih =>
   intro x hm hx C a w Ix
   obtain ⟨e, a₁, w₁, H, harr⟩ := round x hx E Ix b (.inLoop c :: k) cs
   rcases H with ⟨S₁, C₁, hq, I₁⟩ | ⟨ch, C₁, rfl, hp, I₁⟩
   case inr => exact ⟨_, a₁, w₁, .inr ⟨ch, C₁, rfl, hp, I₁⟩, .pass (x := .inLoop c) rfl (fun _ _ => .inl (by simp)) harr⟩
   cases e with
   | normal =>
    obtain ⟨x', hc, hx', hlt⟩ := hq
    obtain ⟨e₂, a₂, w₂, hq₂, harr₂⟩ := ih (μ x') (hm ▸ hlt) x' rfl hx' C₁ a₁ w₁ (I₁.cov hc)
    exact ⟨e₂, a₂, w₂, hq₂, .of_steps (Steps.trans harr (.one step_inLoop)) harr₂⟩
   | exit id => exact ⟨_, a₁, w₁, .inl ⟨S₁, C₁, hq, I₁⟩, .pass (x := .inLoop c) rfl (fun _ _ => .inl (by simp)) harr⟩
   | goto l => exact ⟨_, a₁, w₁, .inl ⟨S₁, C₁, hq, I₁⟩, .pass (x := .inLoop c) rfl (fun _ _ => .inl (by simp)) harr⟩
   | ret => exact ⟨_, a₁, w₁, .inl ⟨S₁, C₁, hq, I₁⟩, .pass (x := .inLoop c) rfl (fun _ _ => .inl (by simp)) harr⟩
   | panic ch => exact ⟨_, a₁, w₁, .inl ⟨S₁, C₁, hq, I₁⟩, .pass (x := .inLoop c) rfl (fun _ _ => .inl (by simp)) harr⟩
   | outgrown => exact ⟨_, a₁, w₁, .inl ⟨S₁, C₁, hq, I₁⟩, .pass (x := .inLoop c) rfl (fun _ _ => .inl (by simp)) harr⟩
 obtain ⟨e, a', w', hq, harr⟩ := key _ x0 rfl hi C a w (I.cov h0)
 exact ⟨e, a', w', hq, .of_steps (.one step_loop) harr⟩
end
end Go.Eng
