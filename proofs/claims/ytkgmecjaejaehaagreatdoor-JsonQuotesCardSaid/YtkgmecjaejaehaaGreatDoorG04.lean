/- Part of a proof: see the last text. -/
import Derived.Test.YtkgmecjaejaehaaGreatDoorG03
import Derived.OpenShut
import Derived.OpenVars
import Derived.Below
import Derived.ChangeSame
import Derived.JoinedCond
import Derived.Handed
import Derived.JoinedOf
set_option linter.unusedVariables false
set_option linter.unusedSimpArgs false
set_option linter.unusedSectionVars false
namespace Go.Eng
variable {P : Program} [HasGlob P] [HasPan P]
inductive Ord where
 | nil
 | q (i : Nat) (r : Ord)
 | kp (i : Nat) (r : Ord)
 | one (i : Nat) (r : Ord)
 | two (i : Nat) (r : Ord) (j : Nat) (r' : Ord)
 | three (i : Nat) (r : Ord) (j : Nat) (r1 : Ord) (k : Nat) (r2 : Ord)
 | four (i : Nat) (r : Ord) (j : Nat) (r1 : Ord) (k : Nat) (r2 : Ord) (l : Nat) (r3 : Ord)
 | kp2 (i : Nat) (r : Ord) (j : Nat) (r' : Ord)
 | kp3 (i : Nat) (r : Ord) (j : Nat) (r1 : Ord) (k : Nat) (r2 : Ord)
 | sk (i : Nat) (r : Ord)
 | nb (r : Ord)
 | kq (i : Nat) (r : Ord) (j : Nat) (r' : Ord)
def Ord.qs (l : List Nat) (r : Ord) : Ord := l.foldr .q r
def Ord.depth : Ord → Nat
 | .nil => 0
 | .q _ r | .kp _ r | .one _ r | .sk _ r => r.depth + 1
 | .nb r => r.depth
 | .kq _ r _ r' => max r.depth r'.depth + 1
 | .two _ r _ r' => max r.depth r'.depth + 1
 | .three _ r _ r1 _ r2 => max r.depth (max r1.depth r2.depth) + 1
 | .four _ r _ r1 _ r2 _ r3 => max r.depth (max r1.depth (max r2.depth r3.depth)) + 1
 | .kp2 _ r _ r' => max r.depth r'.depth + 1
 | .kp3 _ r _ r1 _ r2 => max r.depth (max r1.depth r2.depth) + 1
def Ord.gs : Ord → List Nat
 | .nil => []
 | .q _ r | .kp _ r | .sk _ r => r.gs
 | .nb r => r.gs
 | .kq _ _ j _ => [j]
 | .kp2 _ r _ _ => r.gs
 | .kp3 _ r _ _ _ _ => r.gs
 | .one i _ => [i]
 | .two i _ j _ => [i, j]
 | .three i _ j _ k _ => [i, j, k]
 | .four i _ j _ k _ l _ => [i, j, k, l]
def drOk (ops : Array Oper) : Ord → Array Bool → Bool → Bool
 | .nil, L, _ => (Region.ready .any ops L).isEmpty
 | .q i r, L, solo =>
  (Region.ready .any ops L).contains i && Region.free .any ops L i && !(r.gs.contains i) &&
   (match ops[i]? with
    | some o => !isLoad o.op || (!solo && r.gs.all fun g => reach ops i ops.size g)
    | none => false) && drOk ops r (L.setIfInBounds i true) solo
 | .nb r, L, _ => drOk ops r L false
 | .kq i r j r', L, _ => (Region.ready .any ops L == [i, j] || Region.ready .any ops L == [j, i]) && (r.gs == [j]) && (i != j) && drOk ops r (L.setIfInBounds i true) true && drOk ops r' (L.setIfInBounds j true) false
 | .sk i r, L, solo => (Region.ready .any ops L).contains i && Region.free .any ops L i && !(r.gs.contains i) && drOk ops r (L.setIfInBounds i true) solo
 | .kp i r, L, _ => (Region.ready .any ops L == [i]) && !(r.gs.contains i) && drOk ops r (L.setIfInBounds i true) true
 | .one i r, L, _ => (Region.ready .any ops L == [i]) && drOk ops r (L.setIfInBounds i true) false
 | .two i r j r', L, _ => (Region.ready .any ops L == [i, j]) && drOk ops r (L.setIfInBounds i true) false && drOk ops r' (L.setIfInBounds j true) false
 | .three i r j r1 k r2, L, _ => (Region.ready .any ops L == [i, j, k]) && drOk ops r (L.setIfInBounds i true) false && drOk ops r1 (L.setIfInBounds j true) false && drOk ops r2 (L.setIfInBounds k true) false
 | .four i r j r1 k r2 l r3, L, _ => (Region.ready .any ops L == [i, j, k, l]) && drOk ops r (L.setIfInBounds i true) false && drOk ops r1 (L.setIfInBounds j true) false && drOk ops r2 (L.setIfInBounds k true) false && drOk ops r3 (L.setIfInBounds l true) false
 | .kp2 i r j r', L, _ => (Region.ready .any ops L == [i, j]) && (r.gs == r'.gs) && drOk ops r (L.setIfInBounds i true) true && drOk ops r' (L.setIfInBounds j true) true
 | .kp3 i r j r1 k r2, L, _ => (Region.ready .any ops L == [i, j, k]) && (r.gs == r1.gs) && (r.gs == r2.gs) && drOk ops r (L.setIfInBounds i true) true && drOk ops r1 (L.setIfInBounds j true) true && drOk ops r2 (L.setIfInBounds k true) true
def AgC (P : Program) [HasGlob P] (c : Bool) (df : D) (ds : List D) (tys : List TypeId) (S : St) (k : D → Prop) : Prop := ∃ r0, (c = true → CallT P df ds tys S fun S' r => S' = S ∧ r = r0) ∧ k r0
def kpU (P : Program) [HasGlob P] [HasPan P] (n : Nat) (N : List Nat) (S : St) (o : Oper) (K : List Nat → St → Prop) : Prop :=
 o.guard = none ∧
 match o.op with
 | .alloc _ | .box _ _ | .buildSlice _ _ _ | .makeSlice _ _ _ => stK P n S o (K (o.dst.toList ++ N))
 | .call { callee := .value fx, args, argTypes } => dstOk n o.dst ∧ evK true S fx fun df => evsK true S args.toList fun ds => CallT P df ds argTypes.toList S fun S' r => K N (S'.set o.dst r)
 | .call { callee := .builtin .append, args, .. } =>
  match args.toList with
  | [.tmp t, _] =>
   match look S.slots t with
   | some (.own s _) => s ∈ N ∧ stK P n S o (K N)
   | some (.v (.slice none 0 0)) => stK P n S o (K (o.dst.toList ++ N))
   | _ => False
  | _ => False
 | _ => False
def kpK (P : Program) [HasGlob P] [HasPan P] (n : Nat) (ops : List Oper) (N : List Nat) (S : St) (o : Oper) (K : List Nat → St → Prop) : Prop :=
 match o.guard with
 | none => kpU P n N S o K
 | some _ => match o.op with
  | .call { callee := .value fx, args, argTypes } => match gcond ops S o with
   | some c => dstOk n o.dst ∧ evK c S fx fun df => evsK c S args.toList fun ds => AgC P c df ds argTypes.toList S fun r => K N (S.set o.dst (.when c r))
   | none => False
  | _ => False
def agOp : Op → Bool
 | .makeFunc (.method _) _ _ => true
 | .nilCheck _ => true
 | .call { callee := .invoke _ _, .. } => true
 | _ => false
def opK (P : Program) [HasGlob P] [HasPan P] (n : Nat) (ops : List Oper) (o : Oper) (S : St) (K : St → Prop) : Prop :=
 match o.guard with
 | none => match agOp o.op with
  | true => AG P n ops o S K
  | false => stK P n S o K
 | some _ => AG P n ops o S K
def adr (P : Program) [HasGlob P] [HasPan P] (n : Nat) (ops : List Oper) : Ord → List Nat → St → (St → Prop) → Prop
 | .nil, _, S, K => K S
 | .q i r, N, S, K =>
  match ops[i]? with
  | some o =>
   match o.guard with
   | none => dstOk n o.dst ∧ qK P true S o.op fun d => adr P n ops r N (S.set o.dst d) K
   | some _ =>
    match gcond ops S o with
    | some c => dstOk n o.dst ∧ qK P c S o.op fun d => adr P n ops r N (S.set o.dst (.when c d)) K
    | none => False
  | none => False
 | .nb r, _, S, K => adr P n ops r [] S K
 | .kq i r j r', N, S, K =>
  match ops[i]?, ops[j]? with
  | some o, some o' =>
   (match o.guard with
   | none => dstOk n o.dst ∧ qK P true S o.op fun d => adr P n ops r N (S.set o.dst d) K
   | some _ =>
    match gcond ops S o with
    | some c => dstOk n o.dst ∧ qK P c S o.op fun d => adr P n ops r N (S.set o.dst (.when c d)) K
    | none => False) ∧ opK P n ops o' S (fun S' => adr P n ops r' [] S' K)
  | _, _ => False
 | .kp i r, N, S, K =>
  match ops[i]? with
  | some o => kpK P n ops N S o fun N' S' => adr P n ops r N' S' K
  | none => False
 | .one i r, _, S, K =>
  match ops[i]? with
  | some o => opK P n ops o S fun S' => adr P n ops r [] S' K
  | none => False
 | .two i r j r', _, S, K =>
  match ops[i]?, ops[j]? with
  | some o, some o' => opK P n ops o S (fun S' => adr P n ops r [] S' K) ∧ opK P n ops o' S (fun S' => adr P n ops r' [] S' K)
  | _, _ => False
 | .three i r j r1 k r2, _, S, K => (∃ o, ops[i]? = some o ∧ opK P n ops o S (fun S' => adr P n ops r [] S' K)) ∧ (∃ o, ops[j]? = some o ∧ opK P n ops o S (fun S' => adr P n ops r1 [] S' K)) ∧ (∃ o, ops[k]? = some o ∧ opK P n ops o S (fun S' => adr P n ops r2 [] S' K))
 | .four i r j r1 k r2 l r3, _, S, K => (∃ o, ops[i]? = some o ∧ opK P n ops o S (fun S' => adr P n ops r [] S' K)) ∧ (∃ o, ops[j]? = some o ∧ opK P n ops o S (fun S' => adr P n ops r1 [] S' K)) ∧ (∃ o, ops[k]? = some o ∧ opK P n ops o S (fun S' => adr P n ops r2 [] S' K)) ∧ (∃ o, ops[l]? = some o ∧ opK P n ops o S (fun S' => adr P n ops r3 [] S' K))
 | .sk i r, N, S, K =>
  match ops[i]? with
  | some o => gcond ops S o = some false ∧ dstOk n o.dst ∧ adr P n ops r N (S.set o.dst (.v undef)) K
  | none => False
 | .kp2 i r j r', N, S, K =>
  match ops[i]?, ops[j]? with
  | some o, some o' => kpK P n ops N S o (fun N' S' => adr P n ops r N' S' K) ∧ kpK P n ops N S o' (fun N' S' => adr P n ops r' N' S' K)
  | _, _ => False
 | .kp3 i r j r1 k r2, N, S, K => (∃ o, ops[i]? = some o ∧ kpK P n ops N S o (fun N' S' => adr P n ops r N' S' K)) ∧ (∃ o, ops[j]? = some o ∧ kpK P n ops N S o (fun N' S' => adr P n ops r1 N' S' K)) ∧ (∃ o, ops[k]? = some o ∧ kpK P n ops N S o (fun N' S' => adr P n ops r2 N' S' K))
section
variable {w0 : World} {B : Nat → Nat → Prop} {C0 : Ctx} {n : Nat} {S : St} {C : Ctx} {a : Act} {w we : World}
def NewN (we : World) (N : List Nat) (S : St) (C : Ctx) : Prop := ∀ s ∈ N, ∀ g x u b, look S.heap s = some (g, x) → C.val s g = some u → blk u = some b → we.heap.size ≤ b
def NextN (we : World) (w0 : World) (B : Nat → Nat → Prop) (C0 : Ctx) (n : Nat) (K : List Nat → St → Prop) : Act → World → Prop :=
 fun a w' => ∃ N S C, K N S ∧ Inv w0 B C0 n S C a w' ∧ Same we w' ∧ NewN we N S C
theorem NewN.step {N : List Nat} {S' : St} {C' : Ctx} (hN : NewN we N S C) (hwe : we.heap.size ≤ w.heap.size) (h : Trk S C w S' C') : NewN we N S' C' := fun s hs g x u b h1 h2 h3 => by
 rcases h s g x u b h1 h2 h3 with h | ⟨g0, x0, u0, p1, p2, p3⟩
 ·omega
 ·exact hN s hs g0 x0 u0 b p1 p2 p3
theorem NewN.add {N : List Nat} {S' : St} {C' : Ctx} {t : Nat} (hN : NewN we N S C) (hwe : we.heap.size ≤ w.heap.size) (h : Trk S C w S' C') (ha : NewAt w S' C' t) : NewN we (t :: N) S' C' := fun s hs g x u b h1 h2 h3 => by
 rcases List.mem_cons.1 hs with rfl | hs
 ·have := ha g x u b h1 h2 h3; omega
 ·exact hN.step hwe h s hs g x u b h1 h2 h3
theorem kp_ok (E : Env P w0 B C0) (I : Inv w0 B C0 n S C a w) {N : List Nat} {o : Oper} {K : List Nat → St → Prop} (hN : NewN we N S C) (hsw : Same we w) (h : kpU P n N S o K) (Q : Exit → Act → World → Prop) :
  o.wp P a w (NextN we w0 B C0 n K) Q := by
 have hwe := hsw.1
 obtain ⟨dst, op, ty, pos, after, guard⟩ := o
 obtain ⟨_, h⟩ := h
 have fin : ∀ {t' : Nat}, Oper.wp P ⟨some t', op, ty, pos, after, guard⟩ a w (NextT w0 B C0 n (K (t' :: N)) S C w t') Q → Oper.wp P ⟨some t', op, ty, pos, after, guard⟩ a w (NextN we w0 B C0 n K) Q := fun h =>
  Oper.wp_mono (fun a' w' ⟨S', C', h1, h2, h3, h4, h5⟩ => ⟨_, S', C', h1, h2, hsw.trans h3, hN.add hwe h4 h5⟩) h
 cases op with
 | alloc t =>
  obtain ⟨hd, h⟩ := h
  cases dst with
  | none => exact h.elim
  | some t' =>
   simp only at h
   cases hz : zeroOf P t with
   | none => rw [hz] at h; exact h.elim
   | some zs => rw [hz] at h; exact fin (alloc_step I rfl rfl hd hz h.1 h.2 Q)
 | box t x =>
  obtain ⟨hd, h⟩ := h
  cases dst with
  | none => exact h.elim
  | some t' => exact fin (box_step I rfl rfl hd h Q)
 | buildSlice t len parts =>
  obtain ⟨hd, h⟩ := h
  cases dst with
  | none => exact h.elim
  | some t' =>
   simp only at h
   cases hs : slOf P t with
   | none => rw [hs] at h; exact h.elim
   | some p =>
    obtain ⟨e, sz, by'⟩ := p
    rw [hs] at h
    obtain ⟨hz, h1, h2, h3, h4⟩ := h
    obtain ⟨zs, hz⟩ := Option.isSome_iff_exists.1 hz
    exact fin (buildSlice_step I rfl rfl hd hs hz h1 h2 h3 h4 Q)
 | makeSlice t x y =>
  obtain ⟨hd, h⟩ := h
  cases dst with
  | none => exact h.elim
  | some t' =>
   simp only at h
   cases hs : slOf P t with
   | none => rw [hs] at h; exact h.elim
   | some p =>
    obtain ⟨e, sz, by'⟩ := p
    rw [hs] at h
    simp only at h
    cases hz : zeroOf P e with
    | none => rw [hz] at h; exact h.elim
    | some zs => rw [hz] at h; exact fin (make_step I rfl rfl hd hs hz h.1 h.2 Q)
 | call cl =>
  obtain ⟨callee, args, argTypes⟩ := cl
  cases callee with
  | value fx =>
   obtain ⟨hd, h⟩ := h
   exact Oper.wp_mono (fun a' w' ⟨S', C', h1, h2, h3, h4⟩ => ⟨_, S', C', h1, h2, hsw.trans h3, hN.step hwe h4⟩) (call_step E I rfl hd h Q)
  | invoke r m => exact h.elim
  | builtin b =>
   cases b with
   | append =>
    simp only at h
    -- the operands
    have main : ∀ (t : Nat) (y : Operand) (N' : List Nat) (d : D), args.toList = [.tmp t, y] → look S.slots t = some d → stK P n S ⟨dst, .call ⟨.builtin .append, args, argTypes⟩, ty, pos, after, guard⟩ (K N') →
      ((∃ s g, d = .own s g ∧ s ∈ N ∧ N' = N) ∨ (d = .v (.slice none 0 0) ∧ N' = dst.toList ++ N)) →
      Oper.wp P ⟨dst, .call ⟨.builtin .append, args, argTypes⟩, ty, pos, after, guard⟩ a w (NextN we w0 B C0 n K) Q := fun t y N' d ha hl hst hcase => by
     clear h
     obtain ⟨hd, h⟩ := hst
     cases dst with
     | none => exact h.elim
     | some t' =>
      simp only [ha] at h
      cases ht : argTypes.toList with
      | nil => rw [ht] at h; exact h.elim
      | cons t1 l =>
       cases l with
       | nil => rw [ht] at h; exact h.elim
       | cons t2 l =>
        cases l with
        | cons _ _ => rw [ht] at h; exact h.elim
        | nil =>
         rw [ht] at h
         obtain ⟨rfl, h⟩ := h
         have e1 := arr_of_list ha
         have e2 := arr_of_list ht
         subst e1 e2
         cases hs : slOf P t2 with
         | none => rw [hs] at h; exact h.elim
         | some p =>
          obtain ⟨e, sz, by'⟩ := p
          rw [hs] at h
          obtain ⟨hz, hpos, h⟩ := h
          obtain ⟨zs, hz⟩ := Option.isSome_iff_exists.1 hz
          obtain ⟨u, hu, hr⟩ := I.slots t d hl
          have hev : a.eval (.tmp t) = u := by simp [Act.eval, hu]
          refine Oper.wp_mono (fun a' w' ⟨S', C', h1, h2, h3, h4, h5⟩ => ⟨_, S', C', h1, h2, h3 we (fun b hb => ?_) hsw, ?_⟩) (append_step I rfl rfl hd hs hz hpos h Q)
          ·rw [hev] at hb
           rcases hcase with ⟨s, g, rfl, hsN, _⟩ | ⟨rfl, _⟩
           ·cases hr with
            | own _ _ _ hv _ =>
             have hro : ∃ x, look S.heap s = some (g, x) := by
              have h' : evK true S y fun dy => appK S e sz by' t' (.own s g) dy (K N') := by
               have e1 : evK true S (.tmp t) (fun dx => evK true S y fun dy => appK S e sz by' t' dx dy (K N')) = evK true S y fun dy => appK S e sz by' t' (.own s g) dy (K N') := by
                show (match look S.slots t with | some d => unwK true d fun dx => evK true S y fun dy => appK S e sz by' t' dx dy (K N') | none => False) = _
                rw [hl]
                rfl
               exact e1 ▸ h
              obtain ⟨dy, hy, _⟩ := evK_ok I h'
              unfold appK at hy
              split at hy
              ·obtain ⟨_, hy⟩ := hy
               simp only at hy
               split at hy
               ·rename_i hro; exact ⟨_, rowOf_spec hro⟩
               ·exact hy.elim
              ·exact hy.elim
             obtain ⟨x, hx⟩ := hro
             exact hN s hsN g x u b hx hv hb
           ·obtain rfl := hr.v_inv
            cases hb
          ·rcases hcase with ⟨s, g, rfl, hsN, rfl⟩ | ⟨rfl, rfl⟩
           ·exact hN.step hwe h4
           ·refine hN.add hwe h4 (h5 ?_ (fun s g hev' => ?_) (fun k es hev' => ?_))
            ·rw [hev]; exact hr.v_inv
            ·simp only [evK, hl, unwK] at hev'
             cases hev'
            ·simp only [evK, hl, unwK] at hev'
             cases hev'
    split at h
    ·rename_i t y ha
     split at h
     ·rename_i s g hl
      exact main t y N _ ha hl h.2 (.inl ⟨s, g, rfl, h.1, rfl⟩)
     ·rename_i hl
      exact main t y _ _ ha hl h (.inr ⟨rfl, rfl⟩)
     ·exact h.elim
    ·exact h.elim
   | _ => exact h.elim
 | _ => exact h.elim
theorem NewN.set {N : List Nat} {dst : Option Nat} {d : D} (hN : NewN we N S C) : NewN we N (S.set dst d) C := fun s hs g x u b h1 h2 h3 => by
 cases dst with
 | none => exact hN s hs g x u b h1 h2 h3
 | some t => exact hN s hs g x u b h1 h2 h3
theorem kp_any {ops : List Oper} {Q : Exit → Act → World → Prop} (E : Env P w0 B C0) (I : Inv w0 B C0 n S C a w) {i : Nat} {o : Oper} (ho : ops[i]? = some o) {N : List Nat} {K : List Nat → St → Prop} (hN : NewN we N S C) (hsw : Same we w) (h : kpK P n ops N S o K)
  {M : Act → World → Prop} (hM : ∀ a w, NextN we w0 B C0 n K a w → M a w) : wpOp P ops.toArray Q i M a w := by
 have ho' : ops.toArray[i]? = some o := by simpa using ho
 unfold wpOp
 simp only [ho']
 unfold kpK at h
 cases hg : o.guard with
 | none =>
  rw [hg] at h
  have hw : Region.wanted o (yielded ops.toArray a.tmps) = true := by simp [Region.wanted, hg]
  rw [if_pos hw]
  exact .inl (Oper.wp_mono hM (kp_ok E I hN hsw h Q))
 | some g =>
  rw [hg] at h
  obtain ⟨dst, op, ty, pos, after, guard⟩ := o
  cases op with
  | call cl =>
   obtain ⟨callee, args, argTypes⟩ := cl
   cases callee with
   | value fx =>
    simp only at h
    cases hc : gcond ops S ⟨dst, .call ⟨.value fx, args, argTypes⟩, ty, pos, after, guard⟩ with
    | none => rw [hc] at h; exact h.elim
    | some c =>
     rw [hc] at h
     obtain ⟨hd, h⟩ := h
     rw [gcond_ok I hc]
     cases c with
     | true =>
      rw [if_pos rfl]
      obtain ⟨df, ds, uf, us, ⟨r0, hK, hk⟩, hf, hrep, hrun⟩ := call_run (P := P) (o := ⟨dst, .call { callee := .value fx, args := args, argTypes := argTypes }, ty, pos, after, guard⟩) I rfl h
      obtain ⟨f, cs, hfe, hok, hcall⟩ := hK rfl us uf E I hrep hf
      refine .inl ?_
      unfold Oper.wp
      rw [hrun f cs hfe hok]
      refine hcall.mono ?_
      rintro e w' ⟨u, r, S', C', rfl, ⟨rfl, rfl⟩, hru, I', hs, ht⟩
      exact hM _ _ ⟨N, _, C', hk, I'.set (dstOk_spec hd) (.whenT _ _ hru), hsw.trans hs, (hN.step hsw.1 ht).set⟩
     | false =>
      rw [if_neg (by simp)]
      obtain ⟨df, hds, _⟩ := evK_ok I h
      obtain ⟨ds, ⟨r0, _, hk⟩, _⟩ := evsK_ok I hds
      exact hM _ _ ⟨N, _, C, hk, I.set (dstOk_spec hd) (.whenF _), hsw, hN.set⟩
   | _ => exact h.elim
  | _ => exact h.elim
def TW (we : World) (G : List Nat) (L : Array Bool) (w : World) : Prop := clear G L = true → Same we w
theorem op_any {ops : List Oper} {Q : Exit → Act → World → Prop} (E : Env P w0 B C0) (I : Inv w0 B C0 n S C a w) {i : Nat} {o : Oper} (ho : ops[i]? = some o) {K : St → Prop} (h : opK P n ops o S K) {N : Act → World → Prop} (hN : ∀ a w, NextOk w0 B C0 n K a w → N a w) (hX : PanQ P w0 B C0 n Q) :
  wpOp P ops.toArray Q i N a w := by
 have ho' : ops.toArray[i]? = some o := by simpa using ho
 unfold wpOp
 simp only [ho']
 unfold opK at h
 cases hg : o.guard with
 | none =>
  rw [hg] at h
  have hw : Region.wanted o (yielded ops.toArray a.tmps) = true := by simp [Region.wanted, hg]
  simp only at h
  split at h
  ·have := h E I N Q hN hX
   rw [if_pos hw] at this ⊢
   exact .inl this
  ·rw [if_pos hw]
   exact .inl (Oper.wp_mono hN (st_ok E I h Q hX))
 | some g =>
  rw [hg] at h
  have := h E I N Q hN hX
  split
  ·rename_i hw; rw [if_pos hw] at this; exact .inl this
  ·rename_i hw; rw [if_neg hw] at this; exact this
theorem set_listed {ops : Array Oper} {L : Array Bool} {i : Nat} (h : i ∈ Region.ready .any ops L) : (L.setIfInBounds i true).getD i false = true := by
 have h0 := (mem_ready.1 h).1
 have hlt : i < L.size := by
  rcases Nat.lt_or_ge i L.size with h' | h'
  ·exact h'
  ·simp [Array.getElem?_eq_none h'] at h0
 simp [hlt]
theorem TW_not {we w : World} {G : List Nat} {L : Array Bool} {g : Nat} (hg : g ∈ G) (hl : L.getD g false = true) : TW we G L w := fun hc => by
 have := List.all_eq_true.1 hc g hg
 rw [hl] at this
 cases this
theorem adr_ok (E : Env P w0 B C0) {ops : List Oper} (hsel : Region.noSelect ops.toArray = true) {K : St → Prop} {Q : Exit → Act → World → Prop} (hQn : ∀ a w, NextOk w0 B C0 n K a w → Q .normal a w) (hX : PanQ P w0 B C0 n Q) (hQp : ∀ c dst v a w, Q (.panic c) (a.put dst v) w → Q (.panic c) a w) :
  ∀ (r : Ord) (we : World) (L : Array Bool) (solo : Bool) (N : List Nat) (S : St) (C : Ctx) (a : Act) (w : World) (m : Nat), r.depth ≤ m → drOk ops.toArray r L solo = true → Valid ops.toArray L → Inv w0 B C0 n S C a w → NewN we N S C →
   (solo = false → w.heap = we.heap) → Same we w → adr P n ops r N S K → wpAnyT P ops.toArray Q (TW we r.gs) m L a w := by
 intro r
 -- behind a general operation
 have gen : ∀ (r : Ord), (∀ (we : World) (L : Array Bool) (solo : Bool) (N : List Nat) (S : St) (C : Ctx) (a : Act) (w : World) (m : Nat), r.depth ≤ m → drOk ops.toArray r L solo = true → Valid ops.toArray L → Inv w0 B C0 n S C a w → NewN we N S C →
   (solo = false → w.heap = we.heap) → Same we w → adr P n ops r N S K → wpAnyT P ops.toArray Q (TW we r.gs) m L a w) → ∀ (we : World) (G : List Nat) (L : Array Bool) (S : St) (C : Ctx) (a : Act) (w : World) (m : Nat) (i : Nat) (o : Oper),
   r.depth ≤ m → drOk ops.toArray r (L.setIfInBounds i true) false = true → Valid ops.toArray L → Inv w0 B C0 n S C a w → i ∈ G → i ∈ Region.ready .any ops.toArray L → ops[i]? = some o → opK P n ops o S (fun S' => adr P n ops r [] S' K) →
   wpOp P ops.toArray Q i (fun a' w' => TW we G (L.setIfInBounds i true) w' ∧ wpAnyT P ops.toArray Q (TW we G) m (L.setIfInBounds i true) a' w') a w := by
  intro r ih we G L S C a w m i o hm hok hv I hiG hrd ho h
  have hls := set_listed hrd
  refine op_any E I ho h (fun a' w' ⟨S', C', hK, I'⟩ => ⟨TW_not hiG hls, ?_⟩) hX
  exact wpAnyT_mono (T' := TW w' r.gs) (i := i) (fun L'' w'' hl _ => TW_not hiG hl) m _ a' w' hls
   (ih w' _ false [] S' C' a' w' m hm hok (hv.set hrd) I' (fun _ h => absurd h (by simp)) (fun _ => rfl) (Same.refl _) hK)
 induction r with
 | nil =>
  intro we L solo N S C a w m _ hok hv I hN hso hsw h
  simp only [drOk, List.isEmpty_iff] at hok
  exact wpAnyT_done hok (hQn _ _ ⟨S, C, h, I⟩) _
 | q i r ih =>
  intro we L solo N S C a w m hm hok hv I hN hso hsw h
  obtain ⟨m, rfl⟩ : ∃ m', m = m' + 1 := ⟨m - 1, by simp only [Ord.depth] at hm; omega⟩
  have hm : r.depth ≤ m := by simp only [Ord.depth] at hm; omega
  simp only [drOk, Bool.and_eq_true, Bool.not_eq_true'] at hok
  obtain ⟨⟨⟨⟨hrd, hfr⟩, hiG⟩, hld⟩, hok⟩ := hok
  have hrd' : i ∈ Region.ready .any ops.toArray L := by simpa using hrd
  have hiG' : i ∉ r.gs := by simpa using hiG
  simp only [adr] at h
  cases ho : ops[i]? with
  | none => rw [ho] at h; exact h.elim
  | some o =>
   rw [ho] at h
   have ho' : ops.toArray[i]? = some o := by simpa using ho
   rw [ho'] at hld
   simp only at h
   -- the value, and the state behind it
   have key : ∃ v S', YieldsIf P ops.toArray (fun w' => isLoad o.op = true → Same we w') o v a ∧ Inv w0 B C0 n S' C (a.put o.dst v) w ∧ adr P n ops r N S' K ∧ NewN we N S' C := by
    have put : ∀ (d : D) , NewN we N (S.set o.dst d) C := fun d s hs g x u b h1 h2 h3 => by
     cases hdst : o.dst with
     | none => rw [hdst] at h1; exact hN s hs g x u b h1 h2 h3
     | some t => rw [hdst] at h1; exact hN s hs g x u b h1 h2 h3
    have same : ∀ w' : World, (isLoad o.op = true → Same we w') → isLoad o.op = true → Same w w' := fun w' h hl => by
     have h1 := h hl
     have h2 : solo = false := by
      simp only [hl, Bool.not_true, Bool.false_or, Bool.and_eq_true] at hld
      simpa using hld.1
     have h3 := hso h2
     unfold Same at h1 ⊢
     rw [h3]
     exact h1
    cases hg : o.guard with
    | none =>
     rw [hg] at h
     obtain ⟨hd, h⟩ := h
     obtain ⟨d, hk, hr⟩ := q_ok I h
     obtain ⟨u, hu, hrun⟩ := hr rfl
     exact ⟨u, _, .inl ⟨by simp [Region.wanted, hg], fun w' hw' => hrun w' (same w' hw')⟩, I.set (dstOk_spec hd) hu, hk, put d⟩
    | some gd =>
     rw [hg] at h
     simp only at h
     cases hc : gcond ops S o with
     | none => rw [hc] at h; exact h.elim
     | some c =>
      rw [hc] at h
      obtain ⟨hd, h⟩ := h
      obtain ⟨d, hk, hr⟩ := q_ok I h
      have hw := gcond_ok I hc
      cases c with
      | true =>
       obtain ⟨u, hu, hrun⟩ := hr rfl
       exact ⟨u, _, .inl ⟨hw, fun w' hw' => hrun w' (same w' hw')⟩, I.set (dstOk_spec hd) (.whenT _ _ hu), hk, put _⟩
      | false => exact ⟨undef, _, .inr ⟨hw, rfl⟩, I.set (dstOk_spec hd) (.whenF _), hk, put _⟩
   obtain ⟨v, S', hy, I', hadr, hN'⟩ := key
   refine wpAnyT_first ho' (fun L w hT hc => hT (by rw [clear_set (G := (Ord.q i r).gs) hiG']; exact hc)) (fun j o cs b => Region.noSelect_spec hsel j o cs b) (fun c a w h => hQp _ _ _ _ _ h) (V := fun w' => isLoad o.op = true → Same we w')
    (fun L' w' hv' hil hT hl => ?_) _ L a w (Region.free_spec ho' hfr) hv hrd' hy (fun _ => hsw) ?_ (fun _ => hsw)
   ·simp only [hl, Bool.not_true, Bool.false_or, Bool.and_eq_true] at hld
    refine hT (List.all_eq_true.2 fun g hg => ?_)
    simp only [Bool.not_eq_true']
    have hrg := List.all_eq_true.1 hld.2 g hg
    cases hgl : L'.getD g false with
    | false => rfl
    | true =>
     cases hog : ops.toArray[g]? with
     | none =>
      exfalso
      cases hsz : ops.toArray.size with
      | zero => rw [hsz] at hrg; simp [reach] at hrg
      | succ m => rw [hsz] at hrg; simp only [reach, hog] at hrg; cases hrg
     | some og =>
      have := reach_listed hv' _ _ _ hog hrg (hv' g og hog hgl)
      rw [hil] at this; cases this
   ·exact ih we _ solo N S' C _ w m hm hok (hv.set hrd') I' hN' hso hsw hadr
 | kp i r ih =>
  intro we L solo N S C a w m hm hok hv I hN hso hsw h
  obtain ⟨m, rfl⟩ : ∃ m', m = m' + 1 := ⟨m - 1, by simp only [Ord.depth] at hm; omega⟩
  have hm : r.depth ≤ m := by simp only [Ord.depth] at hm; omega
  simp only [drOk, Bool.and_eq_true, Bool.not_eq_true', beq_iff_eq] at hok
  obtain ⟨⟨hrd, hiG⟩, hok⟩ := hok
  simp only [adr] at h
  cases ho : ops[i]? with
  | none => rw [ho] at h; exact h.elim
  | some o =>
   rw [ho] at h
   have ho' : ops.toArray[i]? = some o := by simpa using ho
   refine wpAnyT_only hrd (kp_any E I ho hN hsw h ?_)
   rintro a' w' ⟨N', S', C', hK, I', hs, hN'⟩
   exact ⟨fun _ => hs, ih we _ true N' S' C' a' w' m hm hok (hv.set (by rw [hrd]; simp)) I' hN' (fun h => by cases h) hs hK⟩
 | kq i r j r' ih ih' =>
  intro we L solo N S C a w m hm hok hv I hN hso hsw h
  obtain ⟨m, rfl⟩ : ∃ m', m = m' + 1 := ⟨m - 1, by simp only [Ord.depth] at hm; omega⟩
  have hm1 : r.depth ≤ m := by simp only [Ord.depth] at hm; omega
  have hm2 : r'.depth ≤ m := by simp only [Ord.depth] at hm; omega
  simp only [drOk, Bool.and_eq_true, beq_iff_eq, Bool.or_eq_true] at hok
  obtain ⟨⟨⟨⟨hrd, hgs⟩, hij⟩, hok1⟩, hok2⟩ := hok
  simp only [adr] at h
  cases ho : ops[i]? with
  | none => rw [ho] at h; exact h.elim
  | some o =>
   cases ho2 : ops[j]? with
   | none => rw [ho, ho2] at h; exact h.elim
   | some o' =>
    rw [ho, ho2] at h
    have ho' : ops.toArray[i]? = some o := by simpa using ho
    have hmi : i ∈ Region.ready .any ops.toArray L := by rcases hrd with h | h <;> rw [h] <;> simp
    have hmj : j ∈ Region.ready .any ops.toArray L := by rcases hrd with h | h <;> rw [h] <;> simp
    have A : wpOp P ops.toArray Q i (fun a' w' => TW we [j] (L.setIfInBounds i true) w' ∧ wpAnyT P ops.toArray Q (TW we [j]) m (L.setIfInBounds i true) a' w') a w := by
     have key : ∃ v S', YieldsIf P ops.toArray (fun w' => isLoad o.op = true → Same w w') o v a ∧ Inv w0 B C0 n S' C (a.put o.dst v) w ∧ adr P n ops r N S' K ∧ NewN we N S' C := by
      have put : ∀ (d : D) , NewN we N (S.set o.dst d) C := fun d s hs g x u b h1 h2 h3 => by
       cases hdst : o.dst with
       | none => rw [hdst] at h1; exact hN s hs g x u b h1 h2 h3
       | some t => rw [hdst] at h1; exact hN s hs g x u b h1 h2 h3
      have h := h.1
      cases hg : o.guard with
      | none =>
       rw [hg] at h
       obtain ⟨hd, h⟩ := h
       obtain ⟨d, hk, hr⟩ := q_ok I h
       obtain ⟨u, hu, hrun⟩ := hr rfl
       exact ⟨u, _, .inl ⟨by simp [Region.wanted, hg], fun w' hw' => hrun w' hw'⟩, I.set (dstOk_spec hd) hu, hk, put d⟩
      | some gd =>
       rw [hg] at h
       simp only at h
       cases hc : gcond ops S o with
       | none => rw [hc] at h; exact h.elim
       | some c =>
        rw [hc] at h
        obtain ⟨hd, h⟩ := h
        obtain ⟨d, hk, hr⟩ := q_ok I h
        have hw := gcond_ok I hc
        cases c with
        | true =>
         obtain ⟨u, hu, hrun⟩ := hr rfl
         exact ⟨u, _, .inl ⟨hw, fun w' hw' => hrun w' hw'⟩, I.set (dstOk_spec hd) (.whenT _ _ hu), hk, put _⟩
        | false => exact ⟨undef, _, .inr ⟨hw, rfl⟩, I.set (dstOk_spec hd) (.whenF _), hk, put _⟩
     obtain ⟨v, S', hy, I', hadr, hN'⟩ := key
     refine hy.wpOp ho' (fun _ => Same.refl _) ⟨fun _ => hsw, ?_⟩
     have := ih we _ true N S' C _ w m hm1 hok1 (hv.set hmi) I' hN' (fun h => by cases h) hsw hadr
     rw [hgs] at this
     exact this
    have Bq := gen r' ih' we [j] L S C a w m j o' hm2 hok2 hv I (by simp) hmj ho2 h.2
    rcases hrd with hrd | hrd
    ·exact wpAnyT_two hrd A Bq
    ·exact wpAnyT_two hrd Bq A
 | nb r ih =>
  intro we L solo N S C a w m hm hok hv I hN hso hsw h
  simp only [drOk] at hok
  simp only [adr] at h
  exact wpAnyT_mono' (T' := TW w r.gs) (fun L' w' ht hc => hsw.trans (ht hc)) m L a w
   (ih w L false [] S C a w m hm hok hv I (fun _ h => absurd h (by simp)) (fun _ => rfl) (Same.refl _) h)
 | sk i r ih =>
  intro we L solo N S C a w m hm hok hv I hN hso hsw h
  obtain ⟨m, rfl⟩ : ∃ m', m = m' + 1 := ⟨m - 1, by simp only [Ord.depth] at hm; omega⟩
  have hm : r.depth ≤ m := by simp only [Ord.depth] at hm; omega
  simp only [drOk, Bool.and_eq_true, Bool.not_eq_true'] at hok
  obtain ⟨⟨⟨hrd, hfr⟩, hiG⟩, hok⟩ := hok
  have hrd' : i ∈ Region.ready .any ops.toArray L := by simpa using hrd
  have hiG' : i ∉ r.gs := by simpa using hiG
  simp only [adr] at h
  cases ho : ops[i]? with
  | none => rw [ho] at h; exact h.elim
  | some o =>
   rw [ho] at h
   have ho' : ops.toArray[i]? = some o := by simpa using ho
   obtain ⟨hc, hd, hadr⟩ := h
   have hw := gcond_ok I hc
   have hN' : NewN we N (S.set o.dst (.v undef)) C := fun s hs g x u b h1 h2 h3 => by
    cases hdst : o.dst with
    | none => rw [hdst] at h1; exact hN s hs g x u b h1 h2 h3
    | some t => rw [hdst] at h1; exact hN s hs g x u b h1 h2 h3
   have hy : YieldsIf P ops.toArray (fun _ => True) o undef a := .inr ⟨hw, rfl⟩
   refine wpAnyT_first ho' (fun L w hT hc => hT (by rw [clear_set (G := (Ord.sk i r).gs) hiG']; exact hc)) (fun j o cs b => Region.noSelect_spec hsel j o cs b) (fun c a w h => hQp _ _ _ _ _ h) (V := fun _ => True)
    (fun _ _ _ _ _ => trivial) _ L a w (Region.free_spec ho' hfr) hv hrd' hy trivial ?_ (fun _ => hsw)
   exact ih we _ solo N _ C _ w m hm hok (hv.set hrd') (I.set (dstOk_spec hd) (.v _)) hN' hso hsw hadr
 | kp2 i r j r' ih ih' =>
  intro we L solo N S C a w m hm hok hv I hN hso hsw h
  obtain ⟨m, rfl⟩ : ∃ m', m = m' + 1 := ⟨m - 1, by simp only [Ord.depth] at hm; omega⟩
  have hm1 : r.depth ≤ m := by simp only [Ord.depth] at hm; omega
  have hm2 : r'.depth ≤ m := by simp only [Ord.depth] at hm; omega
  simp only [drOk, Bool.and_eq_true, beq_iff_eq] at hok
  obtain ⟨⟨⟨hrd, hgs⟩, hok1⟩, hok2⟩ := hok
  simp only [adr] at h
  cases ho : ops[i]? with
  | none => rw [ho] at h; exact h.elim
  | some o =>
   cases ho2 : ops[j]? with
   | none => rw [ho, ho2] at h; exact h.elim
   | some o' =>
    rw [ho, ho2] at h
    have ho' : ops.toArray[i]? = some o := by simpa using ho
    have ho2' : ops.toArray[j]? = some o' := by simpa using ho2
    refine wpAnyT_two hrd ?_ ?_
    ·refine kp_any E I ho hN hsw h.1 ?_
     rintro a' w' ⟨N', S', C', hK, I', hs, hN'⟩
     exact ⟨fun _ => hs, ih we _ true N' S' C' a' w' m hm1 hok1 (hv.set (by rw [hrd]; simp)) I' hN' (fun h => by cases h) hs hK⟩
    ·refine kp_any E I ho2 hN hsw h.2 ?_
     rintro a' w' ⟨N', S', C', hK, I', hs, hN'⟩
     have := ih' we _ true N' S' C' a' w' m hm2 hok2 (hv.set (by rw [hrd]; simp)) I' hN' (fun h => by cases h) hs hK
     rw [← hgs] at this
     exact ⟨fun _ => hs, this⟩
 | kp3 i r j r1 k r2 ih ih1 ih2 =>
  intro we L solo N S C a w m hm hok hv I hN hso hsw h
  obtain ⟨m, rfl⟩ : ∃ m', m = m' + 1 := ⟨m - 1, by simp only [Ord.depth] at hm; omega⟩
  have hm1 : r.depth ≤ m := by simp only [Ord.depth] at hm; omega
  have hm2 : r1.depth ≤ m := by simp only [Ord.depth] at hm; omega
  have hm3 : r2.depth ≤ m := by simp only [Ord.depth] at hm; omega
  simp only [drOk, Bool.and_eq_true, beq_iff_eq] at hok
  obtain ⟨⟨⟨⟨⟨hrd, hgs1⟩, hgs2⟩, hok1⟩, hok2⟩, hok3⟩ := hok
  simp only [adr] at h
  obtain ⟨⟨o, ho, h⟩, ⟨o1, ho1, h1⟩, ⟨o2, ho2, h2⟩⟩ := h
  have ho' : ops.toArray[i]? = some o := by simpa using ho
  have ho1' : ops.toArray[j]? = some o1 := by simpa using ho1
  have ho2' : ops.toArray[k]? = some o2 := by simpa using ho2
  refine wpAnyT_three hrd ?_ ?_ ?_
  ·refine kp_any E I ho hN hsw h ?_
   rintro a' w' ⟨N', S', C', hK, I', hs, hN'⟩
   exact ⟨fun _ => hs, ih we _ true N' S' C' a' w' m hm1 hok1 (hv.set (by rw [hrd]; simp)) I' hN' (fun h => by cases h) hs hK⟩
  ·refine kp_any E I ho1 hN hsw h1 ?_
   rintro a' w' ⟨N', S', C', hK, I', hs, hN'⟩
   have := ih1 we _ true N' S' C' a' w' m hm2 hok2 (hv.set (by rw [hrd]; simp)) I' hN' (fun h => by cases h) hs hK
   rw [← hgs1] at this
   exact ⟨fun _ => hs, this⟩
  ·refine kp_any E I ho2 hN hsw h2 ?_
   rintro a' w' ⟨N', S', C', hK, I', hs, hN'⟩
   have := ih2 we _ true N' S' C' a' w' m hm3 hok3 (hv.set (by rw [hrd]; simp)) I' hN' (fun h => by cases h) hs hK
   rw [← hgs2] at this
   exact ⟨fun _ => hs, this⟩
 | one i r ih =>
  intro we L solo N S C a w m hm hok hv I hN hso hsw h
  obtain ⟨m, rfl⟩ : ∃ m', m = m' + 1 := ⟨m - 1, by simp only [Ord.depth] at hm; omega⟩
  have hm : r.depth ≤ m := by simp only [Ord.depth] at hm; omega
  simp only [drOk, Bool.and_eq_true, beq_iff_eq] at hok
  simp only [adr] at h
  cases ho : ops[i]? with
  | none => rw [ho] at h; exact h.elim
  | some o =>
   rw [ho] at h
   exact wpAnyT_only hok.1 (gen r ih we _ L S C a w m i o hm hok.2 hv I (by simp [Ord.gs]) (by rw [hok.1]; simp) ho h)
 | two i r j r' ih ih' =>
  intro we L solo N S C a w m hm hok hv I hN hso hsw h
  obtain ⟨m, rfl⟩ : ∃ m', m = m' + 1 := ⟨m - 1, by simp only [Ord.depth] at hm; omega⟩
  have hm1 : r.depth ≤ m := by simp only [Ord.depth] at hm; omega
  have hm2 : r'.depth ≤ m := by simp only [Ord.depth] at hm; omega
  simp only [drOk, Bool.and_eq_true, beq_iff_eq] at hok
  simp only [adr] at h
  cases ho : ops[i]? with
  | none => rw [ho] at h; exact h.elim
  | some o =>
   cases ho2 : ops[j]? with
   | none => rw [ho, ho2] at h; exact h.elim
   | some o' =>
    rw [ho, ho2] at h
    exact wpAnyT_two hok.1.1 (gen r ih we _ L S C a w m i o hm1 hok.1.2 hv I (by simp [Ord.gs]) (by rw [hok.1.1]; simp) ho h.1)
     (gen r' ih' we _ L S C a w m j o' hm2 hok.2 hv I (by simp [Ord.gs]) (by rw [hok.1.1]; simp) ho2 h.2)
 | three i r j r1 k r2 ih ih1 ih2 =>
  intro we L solo N S C a w m hm hok hv I hN hso hsw h
  obtain ⟨m, rfl⟩ : ∃ m', m = m' + 1 := ⟨m - 1, by simp only [Ord.depth] at hm; omega⟩
  have hm0 : r.depth ≤ m := by simp only [Ord.depth] at hm; omega
  have hm1 : r1.depth ≤ m := by simp only [Ord.depth] at hm; omega
  have hm2 : r2.depth ≤ m := by simp only [Ord.depth] at hm; omega
  simp only [drOk, Bool.and_eq_true, beq_iff_eq] at hok
  simp only [adr] at h
  obtain ⟨⟨o0, ho0, h0⟩, ⟨o1, ho1, h1⟩, ⟨o2, ho2, h2⟩⟩ := h
  exact wpAnyT_three hok.1.1.1
   (gen r ih we _ L S C a w m i o0 hm0 hok.1.1.2 hv I (by simp [Ord.gs]) (by rw [hok.1.1.1]; simp) ho0 h0)
   (gen r1 ih1 we _ L S C a w m j o1 hm1 hok.1.2 hv I (by simp [Ord.gs]) (by rw [hok.1.1.1]; simp) ho1 h1)
   (gen r2 ih2 we _ L S C a w m k o2 hm2 hok.2 hv I (by simp [Ord.gs]) (by rw [hok.1.1.1]; simp) ho2 h2)
 | four i r j r1 k r2 l r3 ih ih1 ih2 ih3 =>
  intro we L solo N S C a w m hm hok hv I hN hso hsw h
  obtain ⟨m, rfl⟩ : ∃ m', m = m' + 1 := ⟨m - 1, by simp only [Ord.depth] at hm; omega⟩
  have hm0 : r.depth ≤ m := by simp only [Ord.depth] at hm; omega
  have hm1 : r1.depth ≤ m := by simp only [Ord.depth] at hm; omega
  have hm2 : r2.depth ≤ m := by simp only [Ord.depth] at hm; omega
  have hm3 : r3.depth ≤ m := by simp only [Ord.depth] at hm; omega
  simp only [drOk, Bool.and_eq_true, beq_iff_eq] at hok
  simp only [adr] at h
  obtain ⟨⟨o0, ho0, h0⟩, ⟨o1, ho1, h1⟩, ⟨o2, ho2, h2⟩, ⟨o3, ho3, h3⟩⟩ := h
  exact wpAnyT_four hok.1.1.1.1
   (gen r ih we _ L S C a w m i o0 hm0 hok.1.1.1.2 hv I (by simp [Ord.gs]) (by rw [hok.1.1.1.1]; simp) ho0 h0)
   (gen r1 ih1 we _ L S C a w m j o1 hm1 hok.1.1.2 hv I (by simp [Ord.gs]) (by rw [hok.1.1.1.1]; simp) ho1 h1)
   (gen r2 ih2 we _ L S C a w m k o2 hm2 hok.1.2 hv I (by simp [Ord.gs]) (by rw [hok.1.1.1.1]; simp) ho2 h2)
   (gen r3 ih3 we _ L S C a w m l o3 hm3 hok.2 hv I (by simp [Ord.gs]) (by rw [hok.1.1.1.1]; simp) ho3 h3)
theorem Inv.unput {dst : Option Nat} {v : Value} (I : Inv w0 B C0 n ⟨[], []⟩ C (a.put dst v) w) : Inv w0 B C0 n ⟨[], []⟩ C a w := by
 have e1 : (a.put dst v).defers = a.defers := by cases dst <;> rfl
 have e2 : (a.put dst v).tmps.size = a.tmps.size := by cases dst <;> simp [Act.put]
 exact ⟨e2 ▸ I.size, e1 ▸ I.defers, fun k d hk => by simp [look] at hk, fun s g b hb => by simp [look] at hb, fun s g b x u hx => by simp [look] at hx, I.apart, I.bound, I.fresh, I.frame, I.old, I.owned, I.kept, fun s g x y hx => by simp [look] at hx, I.dead0, I.bound0⟩
theorem awp_draw {n : Nat} {S : St} {Q : Exit → St → Prop} (hm : P.follows .mixedOrders = true) {id : Nat} {ops : List Oper} (order : Ord) (hsel : Region.noSelect ops.toArray = true)
  (hok : drOk ops.toArray order (Array.replicate ops.length false) false = true) (hlen : order.depth ≤ ops.length)
  (h : adr P n ops order [] S (Q .normal)) : AWp P n (.region id ops.toArray true) S Q := by
 intro w0 B C0 C a w E I
 have I' : Inv w0 B C0 n S C a { w with drawn := w.drawn + 1 } := I.quiet rfl rfl rfl rfl
 refine wp_mono (Q := fun e a w => (e = .normal ∧ NextOk w0 B C0 n (Q .normal) a w) ∨ PanX P w0 B C0 n e a w) ?_ (fun e a w h => h.imp (fun ⟨he, S, C, h1, h2⟩ => by subst he; exact ⟨S, C, h1, h2⟩) fun h => h)
 refine wp_region_any hm (wpAny_of_T (T := TW { w with drawn := w.drawn + 1 } order.gs) _ _ _ _ ?_)
 have := adr_ok (P := P) E hsel (K := Q .normal) (Q := fun e a w => (e = .normal ∧ NextOk w0 B C0 n (Q .normal) a w) ∨ PanX P w0 B C0 n e a w)
  (fun a w h => .inl ⟨rfl, h⟩) (fun ch C a w hp I => .inr ⟨ch, C, rfl, hp, I⟩)
  (fun c dst v a w h => h.elim (fun h => by cases h.1) fun ⟨ch, C, he, hp, I⟩ => by cases he; exact .inr ⟨c, C, rfl, hp, I.unput⟩) order { w with drawn := w.drawn + 1 } (Array.replicate ops.length false) false [] S C a { w with drawn := w.drawn + 1 } ops.length hlen hok
  (fun k o _ hk => by simp [Array.getD] at hk) I' (fun _ h => absurd h (by simp)) (fun _ => rfl) (Same.refl _) h
 simpa using this
end
end Go.Eng
set_option linter.unusedSectionVars false
namespace Go.Eng
variable {P : Program} [HasGlob P] [HasPan P] {n : Nat} {S : St} {Q : Exit → St → Prop}
attribute [go_sem] strK bytesD_map ifK look St.put St.hput St.set argS evK unwK evsK optI qK nilCmpK bothK binK cmpI arI fieldAddrK rowOf frozOf idxK lenK takeK cellsAt loadK ptrLike cutK upTo fillD putAt cellsOfD cellOk oneD Value.oneCell'
 frz1 frzK frzL dstOk stK mlenK appK copyK oneLL_map oneLL_nil oneLL_cons oneLL_take oneLL_drop oneLL_app oneLL_rep srcOf putK viewC viewL view hsC hs viewP hsP viewsL aops gcond thenQ blockQ covL res1 resL frzD frzDs nilC nilL nilD nilDs pack retQ convK dBytes
attribute [go_sem] D.v.injEq Value.bool.injEq Value.int.injEq beq_true beq_false exists_eq_left' exists_eq_left true_and and_true
@[irreducible] def Hold (p : Prop) : Prop := p
theorem Hold.mk {p : Prop} (h : p) : Hold p := by unfold Hold; exact h
theorem Hold.out {p : Prop} (h : Hold p) : p := by unfold Hold at h; exact h
theorem awp_sr {id : Nat} {ops : List Oper} {y : Code} (h : ∀ K : St → Prop, (∀ S', Hold (AWp P n y S' Q) → K S') → aops P n ops ops S K) : AWp P n (.seq (.region id ops.toArray false) y) S Q :=
 awp_seq (awp_region (h _ fun _ h => h.out))
theorem awp_r {id : Nat} {ops : List Oper} (h : ∀ K : St → Prop, (∀ S', Hold (Q .normal S') → K S') → aops P n ops ops S K) : AWp P n (.region id ops.toArray false) S Q := awp_region (h _ fun _ h => h.out)
def BR (b : Bool) (T F : Prop) : Prop := (b = true → T) ∧ (b = false → F)
theorem BR.intro {b : Bool} {T F : Prop} (h : b = true → T) (h' : b = false → F) : BR b T F := ⟨h, h'⟩
@[go_sem] theorem BR.t {T F : Prop} : BR true T F = T := by simp [BR]
@[go_sem] theorem BR.f {T F : Prop} : BR false T F = F := by simp [BR]
def brK (d : D) (T F : Prop) : Prop :=
 match d with
 | .v (.bool b) => BR b T F
 | _ => False
/-! where I have no memory of my own, a view is what it views -/
theorem viewC_none (sl : List (Nat × D)) (d : D) : viewC ⟨sl, []⟩ none d = d := by
 cases d with
 | v x => unfold viewC; split <;> simp_all
 | own s g => rfl
 | _ => rfl
theorem viewP_none (sl : List (Nat × D)) (d : D) : viewP ⟨sl, []⟩ d = d := by
 cases d with
 | v x => exact viewC_none sl (.v x)
 | _ => rfl
@[go_sem] theorem viewP_map_none (sl : List (Nat × D)) (cs : List D) : cs.map (viewP ⟨sl, []⟩) = cs := by
 have : (viewP ⟨sl, []⟩) = id := funext fun d => viewP_none sl d
 rw [this, List.map_id]
theorem hsP_none (sl : List (Nat × D)) (d : D) : hsP ⟨sl, []⟩ d = [] := by
 cases d with
 | ptr s g off => rfl
 | own s g => rfl
 | _ => rfl
@[go_sem] theorem hsP_flat_none (sl : List (Nat × D)) (cs : List D) : cs.flatMap (hsP ⟨sl, []⟩) = [] := by
 rw [List.flatMap_eq_nil_iff]
 exact fun d _ => hsP_none sl d
theorem awp_if {c : Operand} {x y : Code} (h : ∀ T F : Prop, (AWp P n x S Q → T) → (AWp P n y S Q → F) → evK true S c fun d => brK d T F) : AWp P n (.cond c x y) S Q := by
 refine awp_cond ?_
 have h := h _ _ id id
 have e : ∀ d, brK d (AWp P n x S Q) (AWp P n y S Q) → ∃ b, d = .v (.bool b) ∧ (b = true → AWp P n x S Q) ∧ (b = false → AWp P n y S Q) := fun d h => by
  unfold brK at h
  split at h
  ·rename_i b; exact ⟨b, rfl, h⟩
  ·exact h.elim
 unfold evK at h ⊢
 split at h
 ·exact e _ h
 ·exact e _ h
 ·exact h
 ·split at h
  ·unfold unwK at h ⊢
   split at h
   ·exact ⟨h.1, e _ h.2⟩
   ·exact e _ h
  ·exact h
attribute [go_sem] brK
theorem ag_w {ops : List Oper} {o : Oper} {K : St → Prop} (h : match gcond ops S o with | some c => dstOk n o.dst ∧ qK P c S o.op (fun d => K (S.set o.dst (.when c d))) | none => False) : AG P n ops o S K := by
 cases hg : gcond ops S o with
 | none => rw [hg] at h; exact h.elim
 | some c => rw [hg] at h; exact ag_when hg h.1 h.2
attribute [go_sem] aggCmpK eqCells lookupK mapAt mfind keyEq mapW mput mdel ptrCmpK arrCutK
end Go.Eng
set_option linter.unusedSectionVars false
namespace Go.Eng
variable {P : Program} [HasGlob P] [HasPan P] {n : Nat} {S : St} {Q : Exit → St → Prop}
attribute [go_sem] opK agOp kpK kpU List.mem_cons List.append_nil Option.toList Int.natCast_inj Int.ofNat_lt Int.ofNat_le frzHs
def qsK (P : Program) [HasGlob P] (n : Nat) (ops : List Oper) : List Nat → St → (St → Prop) → Prop
 | [], S, K => K S
 | i :: l, S, K =>
  match ops[i]? with
  | some o =>
   match o.guard with
   | none => dstOk n o.dst ∧ qK P true S o.op fun d => qsK P n ops l (S.set o.dst d) K
   | some _ =>
    match gcond ops S o with
    | some c => dstOk n o.dst ∧ qK P c S o.op fun d => qsK P n ops l (S.set o.dst (.when c d)) K
    | none => False
  | none => False
attribute [go_sem] qsK
theorem qsK_adr {ops : List Oper} {r : Ord} {N : List Nat} {K : St → Prop} : ∀ (l : List Nat) (S : St), qsK P n ops l S (fun S' => adr P n ops r N S' K) = adr P n ops (.qs l r) N S K
 | [], _ => rfl
 | i :: l, S => by
  show _ = adr P n ops (.q i (.qs l r)) N S K
  first | (simp only [qsK, adr, qsK_adr l]; done) | (simp only [qsK, adr, qsK_adr l]; rfl)
@[irreducible] def ADR (P : Program) [HasGlob P] [HasPan P] (n : Nat) (ops : List Oper) (o : Ord) (N : List Nat) (S : St) (K : St → Prop) : Prop := adr P n ops o N S K
theorem ADR_eq (P : Program) [HasGlob P] [HasPan P] (n : Nat) (ops : List Oper) (o : Ord) (N : List Nat) (S : St) (K : St → Prop) : ADR P n ops o N S K = adr P n ops o N S K := by unfold ADR; rfl
theorem adr_qs {ops : List Oper} {r : Ord} {N : List Nat} {K : St → Prop} {l : List Nat} (h : ∀ K' : St → Prop, (∀ S', ADR P n ops r N S' K → K' S') → qsK P n ops l S K') : ADR P n ops (.qs l r) N S K := by
 rw [ADR_eq, ← qsK_adr]
 exact h _ fun _ h => (ADR_eq ..).mp h
theorem adr_nil {ops : List Oper} {N : List Nat} {K : St → Prop} (h : K S) : ADR P n ops .nil N S K := by rw [ADR_eq]; exact h
theorem adr_two {ops : List Oper} {i j : Nat} {r r' : Ord} {N : List Nat} {K : St → Prop} (h : ADR P n ops (.one i r) N S K) (h' : ADR P n ops (.one j r') N S K) (_ : True := trivial) : ADR P n ops (.two i r j r') N S K := by
 rw [ADR_eq] at h h' ⊢
 unfold adr at h h' ⊢
 cases hi : ops[i]? with
 | none => rw [hi] at h; exact h.elim
 | some o =>
  cases hj : ops[j]? with
  | none => rw [hj] at h'; exact h'.elim
  | some o' =>
   rw [hi] at h
   rw [hj] at h'
   exact ⟨h, h'⟩
theorem adr_kq {ops : List Oper} {i j : Nat} {r r' : Ord} {N : List Nat} {K : St → Prop} (h : ADR P n ops (.qs [i] r) N S K) (h' : ADR P n ops (.one j r') N S K) : ADR P n ops (.kq i r j r') N S K := by
 rw [ADR_eq] at h h' ⊢
 replace h : adr P n ops (.q i r) N S K := h
 unfold adr at h h' ⊢
 cases hi : ops[i]? with
 | none => rw [hi] at h; exact h.elim
 | some o =>
  cases hj : ops[j]? with
  | none => rw [hj] at h'; exact h'.elim
  | some o' =>
   rw [hi] at h
   rw [hj] at h'
   exact ⟨h, h'⟩
theorem adr_three {ops : List Oper} {i j k : Nat} {r r1 r2 : Ord} {N : List Nat} {K : St → Prop} (h0 : ADR P n ops (.one i r) N S K) (h1 : ADR P n ops (.one j r1) N S K) (h2 : ADR P n ops (.one k r2) N S K) : ADR P n ops (.three i r j r1 k r2) N S K := by
 rw [ADR_eq] at h0 h1 h2 ⊢
 unfold adr at h0 h1 h2 ⊢
 refine ⟨?_, ?_, ?_⟩
 ·cases hi : ops[i]? with
  | none => rw [hi] at h0; exact h0.elim
  | some o => rw [hi] at h0; exact ⟨o, rfl, h0⟩
 ·cases hi : ops[j]? with
  | none => rw [hi] at h1; exact h1.elim
  | some o => rw [hi] at h1; exact ⟨o, rfl, h1⟩
 ·cases hi : ops[k]? with
  | none => rw [hi] at h2; exact h2.elim
  | some o => rw [hi] at h2; exact ⟨o, rfl, h2⟩
theorem adr_four {ops : List Oper} {i j k l : Nat} {r r1 r2 r3 : Ord} {N : List Nat} {K : St → Prop} (h0 : ADR P n ops (.one i r) N S K) (h1 : ADR P n ops (.one j r1) N S K) (h2 : ADR P n ops (.one k r2) N S K) (h3 : ADR P n ops (.one l r3) N S K) : ADR P n ops (.four i r j r1 k r2 l r3) N S K := by
 rw [ADR_eq] at h0 h1 h2 h3 ⊢
 unfold adr at h0 h1 h2 h3 ⊢
 refine ⟨?_, ?_, ?_, ?_⟩
 ·cases hi : ops[i]? with
  | none => rw [hi] at h0; exact h0.elim
  | some o => rw [hi] at h0; exact ⟨o, rfl, h0⟩
 ·cases hi : ops[j]? with
  | none => rw [hi] at h1; exact h1.elim
  | some o => rw [hi] at h1; exact ⟨o, rfl, h1⟩
 ·cases hi : ops[k]? with
  | none => rw [hi] at h2; exact h2.elim
  | some o => rw [hi] at h2; exact ⟨o, rfl, h2⟩
 ·cases hi : ops[l]? with
  | none => rw [hi] at h3; exact h3.elim
  | some o => rw [hi] at h3; exact ⟨o, rfl, h3⟩
theorem adr_kp3 {ops : List Oper} {i j k : Nat} {r r1 r2 : Ord} {N : List Nat} {K : St → Prop} (h0 : ADR P n ops (.kp i r) N S K) (h1 : ADR P n ops (.kp j r1) N S K) (h2 : ADR P n ops (.kp k r2) N S K) : ADR P n ops (.kp3 i r j r1 k r2) N S K := by
 rw [ADR_eq] at h0 h1 h2 ⊢
 unfold adr at h0 h1 h2 ⊢
 refine ⟨?_, ?_, ?_⟩
 ·cases hi : ops[i]? with
  | none => rw [hi] at h0; exact h0.elim
  | some o => rw [hi] at h0; exact ⟨o, rfl, h0⟩
 ·cases hi : ops[j]? with
  | none => rw [hi] at h1; exact h1.elim
  | some o => rw [hi] at h1; exact ⟨o, rfl, h1⟩
 ·cases hi : ops[k]? with
  | none => rw [hi] at h2; exact h2.elim
  | some o => rw [hi] at h2; exact ⟨o, rfl, h2⟩
theorem adr_kp2 {ops : List Oper} {i j : Nat} {r r' : Ord} {N : List Nat} {K : St → Prop} (h : ADR P n ops (.kp i r) N S K) (h' : ADR P n ops (.kp j r') N S K) : ADR P n ops (.kp2 i r j r') N S K := by
 rw [ADR_eq] at h h' ⊢
 unfold adr at h h' ⊢
 cases hi : ops[i]? with
 | none => rw [hi] at h; exact h.elim
 | some o =>
  cases hj : ops[j]? with
  | none => rw [hj] at h'; exact h'.elim
  | some o' =>
   rw [hi] at h
   rw [hj] at h'
   exact ⟨h, h'⟩
theorem awp_dr (order : Ord) (hm : P.follows .mixedOrders = true) {id : Nat} {ops : List Oper} {y : Code} (hsel : Region.noSelect ops.toArray = true)
  (hok : drOk ops.toArray order (Array.replicate ops.length false) false = true) (hlen : Nat.ble order.depth ops.length = true)
  (h : ∀ K : St → Prop, (∀ S', Hold (AWp P n y S' Q) → K S') → ADR P n ops order [] S K) : AWp P n (.seq (.region id ops.toArray true) y) S Q :=
 awp_seq (awp_draw hm order hsel hok (Nat.le_of_ble_eq_true hlen) ((ADR_eq ..).mp (h _ fun _ h => h.out)))
theorem awp_d (order : Ord) (hm : P.follows .mixedOrders = true) {id : Nat} {ops : List Oper} (hsel : Region.noSelect ops.toArray = true)
  (hok : drOk ops.toArray order (Array.replicate ops.length false) false = true) (hlen : Nat.ble order.depth ops.length = true)
  (h : ∀ K : St → Prop, (∀ S', Hold (Q .normal S') → K S') → ADR P n ops order [] S K) : AWp P n (.region id ops.toArray true) S Q :=
 awp_draw hm order hsel hok (Nat.le_of_ble_eq_true hlen) ((ADR_eq ..).mp (h _ fun _ h => h.out))
/-! calls in a walk: what is handed over is worked out first -/
theorem callT_m {df : D} {f : FuncId} {caps ds : List D} {tys : List TypeId} {k : St → D → Prop} (hf : FunD df f caps) (hh : ds.flatMap (hs S) = []) (h : ∀ args, viewsL P S tys ds ++ caps = args → ∃ R, PCall P f args R ∧ ∀ r, R r → k S r) : CallT P df ds tys S k := by
 obtain ⟨R, h1, h2⟩ := h _ rfl
 exact callT_mem hf rfl hh h1 h2
theorem callT_f {df : D} {f : FuncId} {caps ds : List D} {tys : List TypeId} {k : St → D → Prop} (hf : FunD df f caps) (h : ∀ args, viewsL P S tys ds ++ caps = args → ∃ R, PCall P f args R ∧ ∀ r, R r → flat r = true ∧ k S r) : CallT P df ds tys S k := by
 obtain ⟨R, h1, h2⟩ := h _ rfl
 exact callT_flat hf rfl h1 h2
theorem callT_z {df : D} {f : FuncId} {caps ds : List D} {tys : List TypeId} {k : St → D → Prop} {hs' : List (Nat × Nat)} (hf : FunD df f caps) (hh : ds.flatMap (hs S) = hs') (h1 : ∀ p ∈ hs', (rowOf S p.1 p.2).isSome = true) (h2 : (hs'.map (·.1)).Nodup)
  (h : ∀ args, viewsL P S tys ds ++ caps = args → ∃ R, PCall P f args R ∧ ∀ r, R r → k (frzHs S hs') r) : CallT P df ds tys S k := by
 obtain ⟨R, q1, q2⟩ := h _ rfl
 exact callT_frz hf rfl hh q1 h1 h2 q2
theorem agc_f {df : D} {f : FuncId} {caps ds : List D} {tys : List TypeId} {c : Bool} {k : D → Prop} (r0 : D) (hf : FunD df f caps) (h : c = true → ∀ args, viewsL P S tys ds ++ caps = args → PCall P f args fun r => r = r0) (hfl : flat r0 = true) (hk : k r0) : AgC P c df ds tys S k :=
 ⟨r0, fun hc => callT_flat hf rfl (h hc _ rfl) (fun r hr => by subst hr; exact ⟨hfl, rfl, rfl⟩), hk⟩
theorem agc_m {df : D} {f : FuncId} {caps ds : List D} {tys : List TypeId} {c : Bool} {k : D → Prop} (r0 : D) (hf : FunD df f caps) (hh : ds.flatMap (hs S) = []) (h : c = true → ∀ args, viewsL P S tys ds ++ caps = args → PCall P f args fun r => r = r0) (hk : k r0) : AgC P c df ds tys S k :=
 ⟨r0, fun hc => callT_mem hf rfl hh (h hc _ rfl) (fun r hr => by subst hr; exact ⟨rfl, rfl⟩), hk⟩
theorem ag_c {ops : List Oper} {dst : Option Tmp} {fx : Operand} {args : Array Operand} {tys : Array TypeId} {ty : TypeId} {pos : String} {after : Array Edge} {guard : Option (Nat × Bool)} {K : St → Prop}
  (h : match gcond ops S ⟨dst, .call { callee := .value fx, args := args, argTypes := tys }, ty, pos, after, guard⟩ with
   | some c => dstOk n dst ∧ evK c S fx fun df => evsK c S args.toList fun ds => AgC P c df ds tys.toList S fun r => K (S.set dst (.when c r))
   | none => False) : AG P n ops ⟨dst, .call { callee := .value fx, args := args, argTypes := tys }, ty, pos, after, guard⟩ S K := by
 intro w0 B C0 C a w E I N Q hN _
 cases hg : gcond ops S ⟨dst, .call { callee := .value fx, args := args, argTypes := tys }, ty, pos, after, guard⟩ with
 | none => rw [hg] at h; exact h.elim
 | some c =>
  rw [hg] at h
  obtain ⟨hd, h⟩ := h
  rw [gcond_ok I hg]
  cases c with
  | true =>
   rw [if_pos rfl]
   obtain ⟨df, ds, uf, us, ⟨r0, hK, hk⟩, hf, hrep, hrun⟩ := call_run (P := P) (o := ⟨dst, .call { callee := .value fx, args := args, argTypes := tys }, ty, pos, after, guard⟩) I rfl h
   obtain ⟨f, cs, hfe, hok, hcall⟩ := hK rfl us uf E I hrep hf
   unfold Oper.wp
   rw [hrun f cs hfe hok]
   refine hcall.mono ?_
   rintro e w' ⟨u, r, S', C', rfl, ⟨rfl, rfl⟩, hru, I', _⟩
   exact hN _ _ ⟨_, C', hk, I'.set (dstOk_spec hd) (.whenT _ _ hru)⟩
  | false =>
   rw [if_neg (by simp)]
   obtain ⟨df, hds, _⟩ := evK_ok I h
   obtain ⟨ds, ⟨r0, _, hk⟩, _⟩ := evsK_ok I hds
   exact hN _ _ ⟨_, C, hk, I.set (dstOk_spec hd) (.whenF _)⟩
def agK (P : Program) [HasGlob P] [HasPan P] (n : Nat) (ops : List Oper) (o : Oper) (S : St) (K : St → Prop) : Prop :=
 match o.op with
 | .call { callee := .value fx, args, argTypes } => match gcond ops S o with
  | some c => dstOk n o.dst ∧ evK c S fx fun df => evsK c S args.toList fun ds => AgC P c df ds argTypes.toList S fun r => K (S.set o.dst (.when c r))
  | none => False
 | .buildSlice _ _ _ | .makeSlice _ _ _ | .call { callee := .builtin .append, .. } => gcond ops S o = some true ∧ stK P n S o K
 | op => match gcond ops S o with
  | some c => dstOk n o.dst ∧ qK P c S op fun d => K (S.set o.dst (.when c d))
  | none => False
theorem ag_x {ops : List Oper} {o : Oper} {K : St → Prop} (h : agK P n ops o S K) : AG P n ops o S K := by
 obtain ⟨dst, op, ty, pos, after, guard⟩ := o
 cases op with
 | call c =>
  obtain ⟨callee, args, argTypes⟩ := c
  cases callee with
  | value fx => exact ag_c h
  | builtin b => cases b <;> first | exact ag_w h | exact ag_true h.1 h.2
  | _ => exact ag_w h
 | buildSlice => exact ag_true h.1 h.2
 | makeSlice => exact ag_true h.1 h.2
 | _ => exact ag_w h
def adrK (P : Program) [HasGlob P] [HasPan P] (n : Nat) (ops : List Oper) (o : Ord) (N : List Nat) (S : St) (K : St → Prop) (KK : Ord → List Nat → St → Prop) : Prop :=
 match o with
 | .nil => K S
 | .kp i r => match ops[i]? with
  | some o => kpK P n ops N S o (KK r)
  | none => False
 | .one i r => match ops[i]? with
  | some o => opK P n ops o S (KK r [])
  | none => False
 | .two i r j r' => ADR P n ops (.one i r) N S K ∧ ADR P n ops (.one j r') N S K
 | .three i r j r1 k r2 => ADR P n ops (.one i r) N S K ∧ ADR P n ops (.one j r1) N S K ∧ ADR P n ops (.one k r2) N S K
 | .four i r j r1 k r2 l r3 => ADR P n ops (.one i r) N S K ∧ ADR P n ops (.one j r1) N S K ∧ ADR P n ops (.one k r2) N S K ∧ ADR P n ops (.one l r3) N S K
 | .kp2 i r j r' => ADR P n ops (.kp i r) N S K ∧ ADR P n ops (.kp j r') N S K
 | .kp3 i r j r1 k r2 => ADR P n ops (.kp i r) N S K ∧ ADR P n ops (.kp j r1) N S K ∧ ADR P n ops (.kp k r2) N S K
 | .nb r => KK r [] S
 | .kq i r j r' => ADR P n ops (.qs [i] r) N S K ∧ ADR P n ops (.one j r') N S K
 | .sk i r => match ops[i]? with
  | some o => gcond ops S o = some false ∧ dstOk n o.dst ∧ KK r N (S.set o.dst (.v undef))
  | none => False
 | .q _ _ => False
theorem adr_y {ops : List Oper} {o : Ord} {N : List Nat} {K : St → Prop} (h : ∀ KK : Ord → List Nat → St → Prop, (∀ r N' S', ADR P n ops r N' S' K → KK r N' S') → adrK P n ops o N S K KK) : ADR P n ops o N S K := by
 have h := h (fun r N' S' => adr P n ops r N' S' K) fun _ _ _ h => (ADR_eq ..).mp h
 cases o with
 | nil => exact adr_nil h
 | two i r j r' => exact adr_two h.1 h.2
 | three i r j r1 k r2 => exact adr_three h.1 h.2.1 h.2.2
 | four i r j r1 k r2 l r3 => exact adr_four h.1 h.2.1 h.2.2.1 h.2.2.2
 | kq i r j r' => exact adr_kq h.1 h.2
 | kp2 i r j r' => exact adr_kp2 h.1 h.2
 | kp3 i r j r1 k r2 => exact adr_kp3 h.1 h.2.1 h.2.2
 | q i r => exact h.elim
 | sk i r =>
  simp only [adrK] at h
  rw [ADR_eq]; unfold adr
  cases ho : ops[i]? with
  | none => rw [ho] at h; exact h.elim
  | some o => rw [ho] at h; exact h
 | _ => rw [ADR_eq]; exact h
attribute [go_sem] agK adrK
end Go.Eng
set_option linter.unusedSectionVars false
namespace Go.Eng
variable {P : Program} [HasGlob P] [HasPan P] {n : Nat} {S : St} {Q : Exit → St → Prop}
section
variable {w0 : World} {B : Nat → Nat → Prop} {C0 : Ctx} {C : Ctx} {a : Act} {w : World}
theorem Inv.boxSet (I : Inv w0 B C0 n S C a w) {sb gb : Nat} {cs cs' : List D} (hl : look S.heap sb = some (gb, .box cs)) (hn : cs'.length = cs.length)
  (h : ∀ (j : Nat) c c' u, cs[j]? = some c → cs'[j]? = some c' → Rep C w c u → u.oneCell' = true → Rep C w c' u) : Inv w0 B C0 n (S.hput sb gb (.box cs')) C a w := by
 refine ⟨I.size, I.defers, I.slots, fun s g b hb => ?_, fun s g b x u hx => ?_, I.apart, I.bound, I.fresh, I.frame, I.old, I.owned, I.kept, fun s g x y hx => ?_, I.dead0, I.bound0⟩
 ·rw [look_hput] at hb
  split at hb
  ·rename_i es
   subst es
   simp only [Option.some.injEq, Prod.mk.injEq] at hb
   obtain ⟨rfl, rfl⟩ := hb
   obtain ⟨b, arr, ty, h1, h2, h3, h4, h5⟩ := I.heap _ _ _ hl
   refine ⟨b, arr, ty, h1, h2, h3, by rw [h4, hn], fun j c' u hc' hu => ?_⟩
   have hj : j < cs.length := by
    rw [← hn]
    exact (List.getElem?_eq_some_iff.1 hc').1
   obtain ⟨hr, ho⟩ := h5 j _ u (List.getElem?_eq_getElem hj) hu
   exact ⟨h j _ _ _ (List.getElem?_eq_getElem hj) hc' hr ho, ho⟩
  ·exact I.heap s g b hb
 ·rw [look_hput] at hx
  split at hx
  ·rename_i es
   subst es
   simp only [Option.some.injEq, Prod.mk.injEq] at hx
   obtain ⟨rfl, rfl⟩ := hx
   exact I.mine _ _ b _ u hl
  ·exact I.mine s g b x u hx
 ·rw [look_hput] at hx
  split at hx
  ·rename_i es
   subst es
   simp only [Option.some.injEq, Prod.mk.injEq] at hx
   obtain ⟨rfl, rfl⟩ := hx
   exact I.ents _ _ _ y hl
  ·exact I.ents s g x y hx
end
theorem awp_nilbox {c : Code} {sb gb : Nat} {cs : List D} (s e k j : Nat) (hl : look S.heap sb = some (gb, .box cs)) (hj : cs[j]? = some (.v (.slice none 0 0))) (hs : s ≠ sb)
  (h : ∀ g, AWp P n c ((S.hput s g (.row e k [])).hput sb gb (.box (cs.set j (.own s g)))) Q) : AWp P n c S Q := by
 intro w0 B C0 C a w E I
 obtain ⟨g, C', I', hv, ext⟩ := I.nameNil s e k
 refine h g E (I'.boxSet (cs := cs) ?_ (by simp) fun i c c' u hc hc' hr ho => ?_)
 ·rw [look_hput, if_neg hs]; exact hl
 ·rw [List.getElem?_set] at hc'
  split at hc'
  ·rename_i e
   subst e
   split at hc'
   ·simp only [Option.some.injEq] at hc'
    subst hc'
    rw [hj] at hc
    simp only [Option.some.injEq] at hc
    subst hc
    obtain rfl := hr.v_inv
    exact .own _ _ _ hv rfl
   ·cases hc'
  ·rw [hc] at hc'
   simp only [Option.some.injEq] at hc'
   subst hc'
   exact hr
theorem awp_nilslot {c : Code} (t s e k : Nat) (hl : look S.slots t = some (.v (.slice none 0 0))) (h : ∀ g, AWp P n c ((S.hput s g (.row e k [])).put t (.own s g)) Q) : AWp P n c S Q := by
 intro w0 B C0 C a w E I
 obtain ⟨g, C', I'⟩ := I.nilRow hl s e k
 exact h g E I'
end Go.Eng
set_option linter.unusedSectionVars false
namespace Go.Eng
variable {P : Program} [HasGlob P] [HasPan P]
def notFroz : Blk → Bool
 | .froz _ _ => false
 | _ => true
def LentB (es : List (Nat × (Nat × Blk))) : Nat → Nat → Prop := fun s g => ∃ x, look es s = some (g, x)
def Posts (C : Ctx) (w : World) (ss : List Nat) (ps : List (Nat × Blk)) : Prop := ps.length = ss.length ∧ ∀ (j : Nat) s p, ss[j]? = some s → ps[j]? = some p → HRep C w s p.1 p.2 ∧ notFroz p.2 = true
def putPs (S : St) : List Nat → List (Nat × Blk) → St
 | s :: ss, p :: ps => (putPs S ss ps).hput s p.1 p.2
 | _, _ => S
def ACall (P : Program) [HasGlob P] (f : FuncId) (args : List D) (es : List (Nat × (Nat × Blk))) (ss : List Nat) (R : List (Nat × Blk) → D → Prop) : Prop :=
 FnOk P f ∧ (∀ p ∈ es, 900000 ≤ p.1 ∧ notFroz p.2.2 = true ∧ p.1 ∈ ss) ∧
 ∀ (C : Ctx) (w : World) (us : List Value), CtxOk C w → GlobOk P C w → RepL C w args us → (∀ s g b, look es s = some (g, b) → HRep C w s g b) →
  Calls P f us.toArray w fun e w' => ∃ u r ps C', e = .returned u ∧ R ps r ∧ Rep C' w' r u ∧ CtxOk C' w' ∧ Ext C w C' w' ∧ Posts C' w' ss ps ∧
   (∀ (j : Nat) s p u b, ss[j]? = some s → ps[j]? = some p → C'.val s p.1 = some u → blk u = some b → w.heap.size ≤ b ∨ (bB C (LentB es) b ∧ 900000 ≤ s)) ∧
   (∀ (j : Nat) s p y, ss[j]? = some s → ps[j]? = some p → C.val s p.1 = some y → LentB es s p.1) ∧
   (∀ s g x, C.val s g = some x → ¬ LentB es s g → C'.live s g = C.live s g) ∧ (∀ s g x, C.val s g = some x → C'.live s g = true → C.live s g = true) ∧
   Frm w (bB C (LentB es)) w'
section
variable {w0 : World} {B : Nat → Nat → Prop} {C0 : Ctx} {n : Nat} {S : St} {C : Ctx} {a : Act} {w : World}
theorem putPs_slots : ∀ {ss : List Nat} {ps : List (Nat × Blk)}, (putPs S ss ps).slots = S.slots
 | [], _ => rfl
 | _ :: _, [] => rfl
 | _ :: ss, _ :: ps => putPs_slots (ss := ss) (ps := ps)
theorem putPs_look : ∀ {ss : List Nat} {ps : List (Nat × Blk)} {s g : Nat} {x : Blk}, ps.length = ss.length → look (putPs S ss ps).heap s = some (g, x) → (∃ j : Nat, ss[j]? = some s ∧ ps[j]? = some (g, x)) ∨ (s ∉ ss ∧ look S.heap s = some (g, x))
 | [], [], s, g, x, _, h => .inr ⟨by simp, h⟩
 | [], _ :: _, s, g, x, hl, h => by simp at hl
 | _ :: _, [], s, g, x, hl, h => by simp at hl
 | s0 :: ss, p :: ps, s, g, x, hl, h => by
  simp only [putPs] at h
  rw [look_hput] at h
  split at h
  ·rename_i e
   subst e
   simp only [Option.some.injEq] at h
   exact .inl ⟨0, rfl, by simp [← h]⟩
  ·rename_i hne
   rcases putPs_look (by simpa using hl) h with ⟨j, h1, h2⟩ | ⟨h1, h2⟩
   ·exact .inl ⟨j + 1, h1, h2⟩
   ·exact .inr ⟨by simp; exact ⟨fun e => hne e.symm, h1⟩, h2⟩
theorem HRep.liveOf {s g : Nat} {x : Blk} (h : HRep C w s g x) (hn : notFroz x = true) : C.live s g = true ∧ ∃ u, C.val s g = some u := by
 cases x with
 | box cs => obtain ⟨_, _, _, h1, h2, _⟩ := h; exact ⟨h2, _, h1⟩
 | row e k es => obtain ⟨_, _, h1, h2, _⟩ := h; exact ⟨h2, _, h1⟩
 | froz k es => cases hn
 | map es => obtain ⟨_, _, _, h1, h2, _⟩ := h; exact ⟨h2, _, h1⟩
 | bld t nr gr => obtain ⟨_, _, _, h1, h2, _⟩ := h; exact ⟨h2, _, h1⟩
 | brow e l => obtain ⟨_, h1, h2, _⟩ := h; exact ⟨h2, _, h1⟩
theorem Inv.afterL (I : Inv w0 B C0 n S C a w) {C' : Ctx} {w' : World} {es : List (Nat × (Nat × Blk))} {ss : List Nat} {ps : List (Nat × Blk)}
  (hes : ∀ s g x, look es s = some (g, x) → look S.heap s = some (g, x) ∧ 900000 ≤ s ∧ notFroz x = true ∧ s ∈ ss)
  (e : Ext C w C' w') (hk : CtxOk C' w') (hp : Posts C' w' ss ps)
  (hm : ∀ (j : Nat) s p u b, ss[j]? = some s → ps[j]? = some p → C'.val s p.1 = some u → blk u = some b → w.heap.size ≤ b ∨ (bB C (LentB es) b ∧ 900000 ≤ s))
  (he : ∀ (j : Nat) s p y, ss[j]? = some s → ps[j]? = some p → C.val s p.1 = some y → LentB es s p.1)
  (hl : ∀ s g x, C.val s g = some x → ¬ LentB es s g → C'.live s g = C.live s g) (hd : ∀ s g x, C.val s g = some x → C'.live s g = true → C.live s g = true)
  (hf : Frm w (bB C (LentB es)) w') : Inv w0 B C0 n (putPs S ss ps) C' a w' := by
 -- a lent block is not one of the frame's
 have lentMine : ∀ b, bB C (LentB es) b → w0.heap.size ≤ b ∨ bB C0 B b := fun b ⟨s, g, u, ⟨x, hx⟩, h2, h3⟩ => by
  obtain ⟨q1, q2, q3, _⟩ := hes s g x hx
  rcases I.mine s g b x u q1 ((I.heap s g x q1).liveOf q3).1 h2 h3 with h | h
  ·exact .inl h
  ·exact .inr h.1
 have lentNot : ∀ s g u b, s ∉ ss → C.val s g = some u → C.live s g = true → blk u = some b → ¬ bB C (LentB es) b := fun s g u b hs h1 h2 h3 ⟨s', g', u', ⟨x, hx⟩, h4, h5⟩ => by
  obtain ⟨q1, q2, q3, q4⟩ := hes s' g' x hx
  obtain ⟨rfl, rfl⟩ := I.apart s g u s' g' u' b h1 h2 h4 ((I.heap s' g' x q1).liveOf q3).1 h3 h5
  exact hs q4
 refine ⟨I.size, I.defers, fun k d hk' => ?_, fun s g b hb' => ?_, fun s g b x u hx h1 h2 h3 => ?_, hk.apart, hk.bound, hk.fresh,
  ⟨hf.os.trans I.frame.os, hf.tape.trans I.frame.tape, hf.output.trans I.frame.output, Nat.le_trans I.frame.size hf.size, fun b hb' hn => (hf.block b (Nat.lt_of_lt_of_le hb' I.frame.size) (fun hh => ?_)).trans (I.frame.block b hb' hn)⟩,
  fun s g x hx => e.val _ _ _ (I.old _ _ _ hx), fun b hb' ho => I.owned b hb' (e.owns b (Nat.lt_of_lt_of_le hb' I.frame.size) ho), fun s g u h1 h2 h4 => ?_, fun s g x y hx hy => ?_, fun s g x h1 h2 => I.dead0 _ _ _ h1 (hd _ _ _ (I.old _ _ _ h1) h2), I.bound0⟩
 ·rw [putPs_slots] at hk'
  obtain ⟨u, hu, hr⟩ := I.slots k d hk'
  exact ⟨u, hu, hr.mono e⟩
 ·rcases putPs_look hp.1 hb' with ⟨j, q1, q2⟩ | ⟨hn, hb'⟩
  ·exact (hp.2 j s (g, b) q1 q2).1
  ·have hH := I.heap s g b hb'
   have hval : ∃ x, C.val s g = some x := by
    cases b with
    | box cs => obtain ⟨_, _, _, h, _⟩ := hH; exact ⟨_, h⟩
    | row e k es => obtain ⟨_, _, h, _⟩ := hH; exact ⟨_, h⟩
    | froz k es => obtain ⟨_, h, _⟩ := hH; exact ⟨_, h⟩
    | map es => obtain ⟨_, _, _, h, _⟩ := hH; exact ⟨_, h⟩
    | bld t nr gr => obtain ⟨_, _, _, h, _⟩ := hH; exact ⟨_, h⟩
    | brow e l => obtain ⟨_, h, _⟩ := hH; exact ⟨_, h⟩
   obtain ⟨x, hx⟩ := hval
   refine hH.keep e (fun h => ?_) (fun u k h1 h2 h3 => hf.block k (I.bound _ _ _ _ h1 h2 h3) (lentNot s g u k hn h1 h2 h3))
   rw [hl s g x hx (fun ⟨y, hy⟩ => hn (hes _ _ _ hy).2.2.2)]; exact h
 ·rcases putPs_look hp.1 hx with ⟨j, q1, q2⟩ | ⟨hn, hx⟩
  ·rcases hm j s (g, x) u b q1 q2 h2 h3 with h | ⟨h, h9⟩
   ·exact .inl (Nat.le_trans I.frame.size h)
   ·rcases lentMine b h with h | h
    ·exact .inl h
    ·exact .inr ⟨h, h9⟩
  ·have hH := I.heap s g x hx
   have hval : ∃ y, C.val s g = some y := by
    cases x with
    | box cs => obtain ⟨_, _, _, h, _⟩ := hH; exact ⟨_, h⟩
    | row e k es => obtain ⟨_, _, h, _⟩ := hH; exact ⟨_, h⟩
    | froz k es => obtain ⟨_, h, _⟩ := hH; exact ⟨_, h⟩
    | map es => obtain ⟨_, _, _, h, _⟩ := hH; exact ⟨_, h⟩
    | bld t nr gr => obtain ⟨_, _, _, h, _⟩ := hH; exact ⟨_, h⟩
    | brow e l => obtain ⟨_, h, _⟩ := hH; exact ⟨_, h⟩
   obtain ⟨y, hy⟩ := hval
   have : y = u := by have := e.val _ _ _ hy; rw [h2] at this; exact (Option.some.inj this).symm
   subst this
   exact I.mine s g b x y hx (hd _ _ _ hy h1) hy h3
 ·rcases lentMine b hh with h | h
  ·omega
  ·exact hn h
 ·rw [hl s g u (I.old _ _ _ h1) (fun ⟨x, hx⟩ => h4 (I.ents s g x u (hes _ _ _ hx).1 h1))]
  exact I.kept s g u h1 h2 h4
 ·rcases putPs_look hp.1 hx with ⟨j, q1, q2⟩ | ⟨hn, hx⟩
  ·obtain ⟨x', hx'⟩ := he j s (g, x) y q1 q2 (I.old _ _ _ hy)
   exact I.ents s g x' y (hes _ _ _ hx').1 hy
  ·exact I.ents s g x y hx hy
def lentD (P : Program) (S : St) (ss : List Nat) (t : TypeId) (d : D) : D :=
 match d with
 | .own s g => if ss.contains s then .own s g else view S (cellTys P t) d
 | .ptr s g off => if ss.contains s then .ptr s g off else view S (cellTys P t) d
 | d => view S (cellTys P t) d
def lentL (P : Program) (S : St) (ss : List Nat) : List TypeId → List D → List D
 | t :: ts, d :: ds => lentD P S ss t d :: lentL P S ss ts ds
 | [], ds => ds
 | _, [] => []
def lentHs (S : St) (ss : List Nat) (d : D) : List (Nat × Nat) :=
 match d with
 | .own s g => if ss.contains s then [] else hs S d
 | .ptr s g off => if ss.contains s then [] else hs S d
 | d => hs S d
theorem lentL_ok (I : Inv w0 B C0 n S C a w) {ss : List Nat} : ∀ {tys : List TypeId} {ds : List D} {us : List Value}, ds.flatMap (lentHs S ss) = [] → RepL C w ds us → RepL C w (lentL P S ss tys ds) us
 | _, [], us, _, h => by
  cases us with
  | nil => unfold lentL; cases ‹List TypeId› <;> exact ⟨rfl, fun j d u hd _ => by simp at hd⟩
  | cons u us => have := h.1; simp at this
 | [], d :: ds, us, hsub, h => h
 | t :: tys, d :: ds, us, hsub, h => by
  cases us with
  | nil => have := h.1; simp at this
  | cons u us =>
   simp only [List.flatMap_cons, List.append_eq_nil_iff] at hsub
   have ih := lentL_ok I (tys := tys) hsub.2 ⟨by have := h.1; simpa using this, fun j d u hd hu => h.2 (j + 1) d u (by simpa using hd) (by simpa using hu)⟩
   refine ⟨by simp [lentL, ih.1], fun j d' u' hd hu => ?_⟩
   cases j with
   | zero =>
    simp [lentL] at hd hu
    subst hd hu
    have h0 := h.2 0 d _ rfl rfl
    have vw : hs S d = [] → Rep C w (view S (cellTys P t) d) u := fun hh => view_ok I (fun _ _ => rfl) [] (fun _ _ => by simp) (by rw [hh]; simp) h0
    have h1 := hsub.1
    unfold lentD
    unfold lentHs at h1
    split
    ·split
     ·exact h0
     ·rename_i hc
      simp only at h1
      rw [if_neg hc] at h1
      exact vw h1
    ·split
     ·exact h0
     ·rename_i hc
      simp only at h1
      rw [if_neg hc] at h1
      exact vw h1
    ·rename_i hne hne2
     refine vw ?_
     split at h1
     ·rename_i s g; exact absurd rfl (hne s g)
     ·rename_i s g off; exact absurd rfl (hne2 s g off)
     ·exact h1
   | succ j => exact ih.2 j d' u' (by simpa [lentL] using hd) (by simpa using hu)
theorem look_mem {α : Type} : ∀ {l : List (Nat × α)} {k : Nat} {x : α}, look l k = some x → (k, x) ∈ l
 | [], k, x, h => by simp [look] at h
 | (k', y) :: l, k, x, h => by
  simp only [look] at h
  split at h
  ·rename_i e; subst e; simp at h; subst h; simp
  ·exact List.mem_cons_of_mem _ (look_mem h)
theorem callA_lent {df : D} {f : FuncId} {caps ds args : List D} {tys : List TypeId} {es : List (Nat × (Nat × Blk))} {ss : List Nat} {R : List (Nat × Blk) → D → Prop} {k : St → D → Prop} (hf : FunD df f caps)
  (hv : lentL P S ss tys ds ++ caps = args) (hh : ds.flatMap (lentHs S ss) = []) (h : ACall P f args es ss R) (hes : covL S.heap es) (hR : ∀ ps r, ps.length = ss.length → R ps r → k (putPs S ss ps) r) : CallA P df ds tys S k := by
 intro w0 B C0 n C a w us uf E I hr hu
 obtain ⟨cs, rfl, hcs⟩ := hf.rep hu
 refine ⟨f, cs, rfl, h.1, ?_⟩
 have hes' : ∀ s g x, look es s = some (g, x) → look S.heap s = some (g, x) ∧ 900000 ≤ s ∧ notFroz x = true ∧ s ∈ ss := fun s g x hx => by
  have hm := h.2.1 _ (look_mem hx)
  exact ⟨covL_ok hes s _ hx, hm⟩
 refine (h.2.2 C w (us ++ cs.toList) I.ctxOk (E.now I) (by rw [← hv]; exact (lentL_ok I hh hr).append hcs) (fun s g b hb => I.heap s g b (hes' s g b hb).1)).mono ?_
 rintro e w' ⟨u, r, ps, C', rfl, hRr, hru, hok, ext, hp, hm, he, hl, hd, hfrm⟩
 exact .inl ⟨u, r, _, C', rfl, hR ps r hp.1 hRr, hru, I.afterL hes' ext hok hp hm he hl hd hfrm⟩
/-! the callee's side -/
def postK (S : St) : List Nat → (List (Nat × Blk) → Prop) → Prop
 | [], k => k []
 | s :: ss, k => match look S.heap s with
  | some (g, b) => notFroz b = true ∧ postK S ss fun ps => k ((g, b) :: ps)
  | none => False
def frzDA (ss : List Nat) (S : St) (d : D) (k : St → D → Prop) : Prop :=
 match d with
 | .own s g => if ss.contains s then k S (.own s g) else frzD S (.own s g) k
 | d => frzD S d k
def frzDsA (ss : List Nat) : St → List D → (St → List D → Prop) → Prop
 | S, [], k => k S []
 | S, d :: ds, k => frzDA ss S d fun S' d' => frzDsA ss S' ds fun S'' ds' => k S'' (d' :: ds')
def retA (P : Program) (rs : List ResultVar) (tys : List TypeId) (ss : List Nat) (R : List (Nat × Blk) → D → Prop) : Exit → St → Prop
 | .normal, S | .ret, S => resL P S rs fun ds => frzDsA ss S ds fun S' ds' => postK S' ss fun ps => R ps (pack (nilDs P tys ds'))
 | _, _ => False
theorem postK_ok : ∀ {ss : List Nat} {k : List (Nat × Blk) → Prop}, postK S ss k → ∃ ps, k ps ∧ ps.length = ss.length ∧ ∀ (j : Nat) s p, ss[j]? = some s → ps[j]? = some p → look S.heap s = some p ∧ notFroz p.2 = true
 | [], k, h => ⟨[], h, rfl, fun j s p hs _ => by simp at hs⟩
 | s :: ss, k, h => by
  unfold postK at h
  split at h
  ·rename_i g b hl
   obtain ⟨hn, h⟩ := h
   obtain ⟨ps, h1, h2, h3⟩ := postK_ok h
   refine ⟨(g, b) :: ps, h1, by simp [h2], fun j s' p hs hp => ?_⟩
   cases j with
   | zero => simp at hs hp; subst hs hp; exact ⟨hl, hn⟩
   | succ j => exact h3 j s' p (by simpa using hs) (by simpa using hp)
  ·exact h.elim
theorem frzDA_ok {ss : List Nat} (I : Inv w0 B C0 n S C a w) {d : D} {k : St → D → Prop} (h : frzDA ss S d k) : ∃ S' d' C', k S' d' ∧ Inv w0 B C0 n S' C' a w ∧ Ext C w C' w ∧ ∀ u, Rep C w d u → Rep C' w d' u := by
 unfold frzDA at h
 split at h
 ·split at h
  ·exact ⟨S, _, C, h, I, Ext.refl _ _, fun u hu => hu⟩
  ·exact frzD_ok I h
 ·exact frzD_ok I h
theorem frzDsA_ok {ss : List Nat} : ∀ {ds : List D} {S : St} {C : Ctx} (_ : Inv w0 B C0 n S C a w) {k : St → List D → Prop}, frzDsA ss S ds k →
  ∃ S' ds' C', k S' ds' ∧ Inv w0 B C0 n S' C' a w ∧ Ext C w C' w ∧ ∀ us, RepL C w ds us → RepL C' w ds' us
 | [], S, C, I, k, h => ⟨S, [], C, h, I, Ext.refl _ _, fun us h => h⟩
 | d :: ds, S, C, I, k, h => by
  obtain ⟨S1, d1, C1, h1, I1, e1, r1⟩ := frzDA_ok I h
  obtain ⟨S2, ds2, C2, h2, I2, e2, r2⟩ := frzDsA_ok I1 h1
  refine ⟨S2, d1 :: ds2, C2, h2, I2, e1.trans e2, fun us hus => ?_⟩
  cases us with
  | nil => have := hus.1; simp at this
  | cons u us =>
   have hr2 := r2 us ⟨by have := hus.1; simpa using this, fun j d u hd hu => (hus.2 (j + 1) d u (by simpa using hd) (by simpa using hu)).mono e1⟩
   refine ⟨by simp [hr2.1], fun j d' u' hd' hu' => ?_⟩
   cases j with
   | zero => simp at hd' hu'; subst hd' hu'; exact (r1 _ (hus.2 0 d _ rfl rfl)).mono e2
   | succ j => exact hr2.2 j d' u' (by simpa using hd') (by simpa using hu')
end
theorem acall_of {f : FuncId} {fn : Func} {c : Code} {args : List D} {es : List (Nat × (Nat × Blk))} {ss : List Nat} {R : List (Nat × Blk) → D → Prop} (hf : P.funcs[f]? = some fn) (hb : fn.body = some c) (hn : (fn.name == "runtime.NumGoroutine") = false) {n : Nat} {rs : List ResultVar} {tys : List TypeId} (hnt : fn.ntmps = n) (hrs : fn.results.toList = rs) (hty : fn.resultTypes.toList = tys) (hlen : args.length ≤ n)
  (hes : ∀ p ∈ es, 900000 ≤ p.1 ∧ notFroz p.2.2 = true ∧ p.1 ∈ ss) (h : @AWp P _ (noPan P) n c ⟨argS 0 args, es⟩ (retA P rs tys ss R)) : ACall P f args es ss R := by
 subst hnt hrs hty
 refine ⟨⟨fn, hf, hn, by rw [hb]; rfl⟩, hes, fun C w us hc hg hr hent => ?_⟩
 refine calls_of_wp hf hb ?_
 have hsz : us.length = args.length := hr.1
 have hlive : ∀ s g, LentB es s g → C.live s g = true := fun s g ⟨x, hx⟩ => ((hent s g x hx).liveOf (hes _ (look_mem hx)).2.1).1
 let a : Act := { tmps := us.toArray ++ Array.replicate (fn.ntmps - us.toArray.size) undef, defers := [] }
 have I : Inv w (LentB es) C fn.ntmps ⟨argS 0 args, es⟩ C a w := by
  refine ⟨by simp [a]; omega, rfl, fun k d hk => ?_, fun s g b hb => hent s g b hb, fun s g b x u hx _ hv hbk => .inr ⟨⟨s, g, u, ⟨x, hx⟩, hv, hbk⟩, (hes _ (look_mem hx)).1⟩, hc.apart, hc.bound, hc.fresh, Frm.refl _ _, fun _ _ _ h => h, fun _ _ h => h, fun _ _ _ _ h _ => h,
   fun s g x y hx _ => ⟨x, hx⟩, fun _ _ _ _ h => h, fun s g u b h1 h2 h3 => hc.bound s g u b h1 h2 h3⟩
  obtain ⟨_, h2⟩ := argS_look hk
  rw [Nat.sub_zero] at h2
  have hlt : k < us.length := by rw [hsz]; exact (List.getElem?_eq_some_iff.1 h2).1
  have hu : us[k]? = some us[k] := List.getElem?_eq_getElem hlt
  refine ⟨us[k], ?_, hr.2 k d _ h2 hu⟩
  simp only [a]
  rw [Array.getElem?_append_left (by simpa using hlt)]
  simp [hu]
 refine wp_mono (h ⟨hg, hlive⟩ I) ?_
 rintro e a' w' (⟨S', C', hq, I'⟩ | ⟨_, _, _, hp, _⟩)
 case inr => exact hp.elim
 have fin : (resL P S' fn.results.toList fun ds => frzDsA ss S' ds fun S'' ds' => postK S'' ss fun ps => R ps (pack (nilDs P fn.resultTypes.toList ds'))) →
   a'.defers = [] ∧ ∃ v, (results fn a'.tmps).run P w' = .ok v w' ∧ ∃ u r ps C'', Ending.returned v = .returned u ∧ R ps r ∧ Rep C'' w' r u ∧ CtxOk C'' w' ∧ Ext C w C'' w' ∧ Posts C'' w' ss ps ∧
   (∀ (j : Nat) s p u b, ss[j]? = some s → ps[j]? = some p → C''.val s p.1 = some u → blk u = some b → w.heap.size ≤ b ∨ (bB C (LentB es) b ∧ 900000 ≤ s)) ∧
   (∀ (j : Nat) s p y, ss[j]? = some s → ps[j]? = some p → C.val s p.1 = some y → LentB es s p.1) ∧
   (∀ s g x, C.val s g = some x → ¬ LentB es s g → C''.live s g = C.live s g) ∧ (∀ s g x, C.val s g = some x → C''.live s g = true → C.live s g = true) ∧
   Frm w (bB C (LentB es)) w' := fun hq => by
  refine ⟨I'.defers, ?_⟩
  obtain ⟨ds, us, hk, hrs, hlen, hrun⟩ := resL_ok I' hq
  obtain ⟨S2, ds', C2, hk2, I2, e2, hr'⟩ := frzDsA_ok I' hk
  obtain ⟨ps, hR, hpl, hpost⟩ := postK_ok hk2
  obtain ⟨u, hu, hpk⟩ := pack_ok (nilDs_ok (P := P) (tys := fn.resultTypes.toList) (hr' us hrs))
  refine ⟨u, ?_, u, _, ps, C2, rfl, hR, hu, ⟨I2.apart, I2.bound, I2.fresh⟩, ⟨I2.old, I2.owned, fun b hb hno => I2.frame.block b hb (fun ⟨s, g, v, q1, q2, q3⟩ => hno ⟨s, g, v, q2, hlive s g q1, q3⟩), I2.frame.size⟩,
   ⟨hpl, fun j s p h1 h2 => ⟨I2.heap s p.1 p.2 (hpost j s p h1 h2).1, (hpost j s p h1 h2).2⟩⟩, fun j s p v b h1 h2 h3 h4 => ?_, fun j s p y h1 h2 h3 => I2.ents s p.1 p.2 y (hpost j s p h1 h2).1 h3, fun s g x hx hnl => ?_, fun s g x h1 h2 => I2.dead0 s g x h1 h2, I2.frame⟩
  ·have hfun : (fun r : ResultVar => match r with | .tmp t => (pure (a'.tmps.getD t undef) : Sem Value) | .cell p ty => do loadVar ty (← asAddr (a'.tmps.getD p undef))) = rvSem a'.tmps := by
    funext r; cases r <;> rfl
   have hres : results fn a'.tmps = (do let vs ← fn.results.mapM (rvSem a'.tmps); pure (if h : vs.size = 1 then vs[0] else .tuple vs)) := by
    rw [← hfun]; rfl
   rw [hres, Array.mapM_eq_mapM_toList]
   simp only [Sem.run_bind, Sem.run_map, hrun, Result.andThen_ok, Sem.run_pure]
   rw [← hpk]
  ·obtain ⟨q1, q2⟩ := hpost j s p h1 h2
   exact I2.mine s p.1 b p.2 v q1 ((I2.heap _ _ _ q1).liveOf q2).1 h3 h4
  ·cases h0 : C.live s g with
   | true => exact I2.kept s g x hx h0 hnl
   | false =>
    cases h1 : C2.live s g with
    | false => rfl
    | true => rw [I2.dead0 s g x hx h1] at h0; cases h0
 cases e with
 | normal => exact fin hq
 | ret => exact fin hq
 | exit id => exact hq.elim
 | goto l => exact hq.elim
 | panic ch => exact hq.elim
 | outgrown => exact hq.elim
attribute [go_sem] retA frzDsA frzDA postK notFroz putPs lentL lentD lentHs List.contains_cons List.contains_nil
end Go.Eng
set_option linter.unusedSectionVars false
namespace Go.Eng
variable {P : Program} [HasGlob P] [HasPan P] {n : Nat} {S : St} {Q : Exit → St → Prop}
def eraseK {α : Type} : List (Nat × α) → Nat → List (Nat × α)
 | [], _ => []
 | (k, x) :: l, i => if k = i then eraseK l i else (k, x) :: eraseK l i
theorem look_erase {α : Type} : ∀ {l : List (Nat × α)} {i k : Nat} {x : α}, look (eraseK l i) k = some x → k ≠ i ∧ look l k = some x
 | [], i, k, x, h => by simp [eraseK, look] at h
 | (k', y) :: l, i, k, x, h => by
  simp only [eraseK] at h
  split at h
  ·rename_i e
   obtain ⟨h1, h2⟩ := look_erase h
   refine ⟨h1, ?_⟩
   simp only [look]
   rw [if_neg (by rw [e]; exact fun h => h1 h.symm)]
   exact h2
  ·rename_i e
   simp only [look] at h
   split at h
   ·rename_i e2
    subst e2
    exact ⟨e, by simp [look]; simpa using h⟩
   ·rename_i e2
    obtain ⟨h1, h2⟩ := look_erase h
    exact ⟨h1, by simp only [look]; rw [if_neg e2]; exact h2⟩
def St.drop (S : St) (s : Nat) : St := ⟨S.slots, eraseK S.heap s⟩
attribute [go_sem] eraseK St.drop
section
variable {w0 : World} {B : Nat → Nat → Prop} {C0 : Ctx} {C : Ctx} {a : Act} {w : World}
theorem Inv.reslot (I : Inv w0 B C0 n S C a w) {t : Nat} {d d' : D} (hl : look S.slots t = some d) (h : ∀ u, Rep C w d u → Rep C w d' u) : Inv w0 B C0 n (S.put t d') C a w := by
 refine ⟨I.size, I.defers, fun k x hk => ?_, I.heap, I.mine, I.apart, I.bound, I.fresh, I.frame, I.old, I.owned, I.kept, I.ents, I.dead0, I.bound0⟩
 simp only [St.put, look] at hk
 split at hk
 ·rename_i e
  subst e
  simp only [Option.some.injEq] at hk
  subst hk
  obtain ⟨u, hu, hr⟩ := I.slots _ _ hl
  exact ⟨u, hu, h u hr⟩
 ·exact I.slots k x hk
theorem Ext.kill (C : Ctx) (w : World) (s g : Nat) : Ext C w (C.kill s g) w := by
 refine ⟨fun _ _ _ h => h, fun b _ ⟨s', g', u', q1, q2, q3⟩ => ?_, fun _ _ _ => rfl, Nat.le_refl _⟩
 simp only [Ctx.kill] at q1 q2
 split at q2
 ·cases q2
 ·exact ⟨s', g', u', q1, q2, q3⟩
theorem Inv.leave (I : Inv w0 B C0 n S C a w) {s g : Nat} {x : Blk} (hx : look S.heap s = some (g, x)) : Inv w0 B C0 n (S.drop s) (C.kill s g) a w := by
 have ext := Ext.kill C w s g
 have lv : ∀ s' g', (C.kill s g).live s' g' = true → C.live s' g' = true ∧ ¬ (s' = s ∧ g' = g) := fun s' g' h => by
  simp only [Ctx.kill] at h
  split at h
  ·cases h
  ·rename_i h2; exact ⟨h, h2⟩
 have lv2 : ∀ s' g', C.live s' g' = true → ¬ (s' = s ∧ g' = g) → (C.kill s g).live s' g' = true := fun s' g' h h2 => by
  simp only [Ctx.kill]; rw [if_neg h2]; exact h
 refine ⟨I.size, I.defers, fun k d hk => ?_, fun s' g' b' hb' => ?_, fun s' g' b' y u' hy q1 q2 q3 => ?_, fun s1 g1 u1 s2 g2 u2 b' q1 q2 q3 q4 q5 q6 => I.apart _ _ _ _ _ _ _ q1 (lv _ _ q2).1 q3 (lv _ _ q4).1 q5 q6,
  fun s' g' u' b' q1 q2 q3 => I.bound _ _ _ _ q1 (lv _ _ q2).1 q3, I.fresh, I.frame, I.old, fun b hb ho => I.owned b hb (ext.owns b (Nat.lt_of_lt_of_le hb I.frame.size) ho), fun s' g' u' q1 q2 q4 => ?_,
  fun s' g' y z hy hz => I.ents s' g' y z (look_erase hy).2 hz, fun s' g' y q1 q2 => I.dead0 _ _ _ q1 (lv _ _ q2).1, I.bound0⟩
 ·obtain ⟨y, hy, hr⟩ := I.slots k d hk
  exact ⟨y, hy, hr.mono ext⟩
 ·obtain ⟨h1, h2⟩ := look_erase hb'
  exact (I.heap s' g' b' h2).keep ext (fun h => lv2 _ _ h (fun h2 => h1 h2.1)) (fun _ _ _ _ _ => rfl)
 ·exact I.mine s' g' b' y u' (look_erase hy).2 (lv _ _ q1).1 q2 q3
 ·refine lv2 _ _ (I.kept _ _ _ q1 q2 q4) fun ⟨e1, e2⟩ => ?_
  subst e1 e2
  exact q4 (I.ents _ _ _ _ hx q1)
theorem Inv.rename (I : Inv w0 B C0 n S C a w) {s g : Nat} {x : Blk} (hx : look S.heap s = some (g, x)) (hn : notFroz x = true) (s' : Nat) (h9 : 900000 ≤ s → 900000 ≤ s') :
  ∃ g' C' u, Inv w0 B C0 n ((S.drop s).hput s' g' x) C' a w ∧ C.val s g = some u ∧ C'.val s' g' = some u ∧ Ext C w C' w := by
 obtain ⟨N, hN⟩ := I.fresh s'
 have hg := hN N (Nat.le_refl _)
 obtain ⟨hlv, u, hu⟩ := (I.heap s g x hx).liveOf hn
 have hne : ¬ (s = s' ∧ g = N) := fun ⟨e1, e2⟩ => by subst e1 e2; rw [hg] at hu; cases hu
 let C' : Ctx := (C.add s' N u).kill s g
 have hv' : C'.val s' N = some u := by simp [C', Ctx.add, Ctx.kill]
 have hl' : C'.live s' N = true := by
  simp only [C', Ctx.add, Ctx.kill]
  rw [if_neg (fun h => hne ⟨h.1.symm, h.2.symm⟩)]
  simp
 have old : ∀ s1 g1 y, C'.val s1 g1 = some y → C'.live s1 g1 = true → (s1 = s' ∧ g1 = N ∧ y = u) ∨ (¬ (s1 = s' ∧ g1 = N) ∧ ¬ (s1 = s ∧ g1 = g) ∧ C.val s1 g1 = some y ∧ C.live s1 g1 = true) := fun s1 g1 y h1 h2 => by
  simp only [C', Ctx.add, Ctx.kill] at h1 h2
  by_cases hk : s1 = s ∧ g1 = g
  ·rw [if_pos hk] at h2; cases h2
  ·rw [if_neg hk] at h2
   by_cases hN1 : s1 = s' ∧ g1 = N
   ·rw [if_pos hN1] at h1; simp only [Option.some.injEq] at h1; exact .inl ⟨hN1.1, hN1.2, h1.symm⟩
   ·rw [if_neg hN1] at h1 h2; exact .inr ⟨hN1, hk, h1, h2⟩
 have oldv : ∀ s1 g1 y, C.val s1 g1 = some y → C'.val s1 g1 = some y := fun s1 g1 y h => by
  simp only [C', Ctx.add, Ctx.kill]
  rw [if_neg]
  ·exact h
  ·rintro ⟨rfl, rfl⟩; rw [hg] at h; cases h
 have oldl : ∀ s1 g1, ¬ (s1 = s ∧ g1 = g) → C.live s1 g1 = true → C'.live s1 g1 = true := fun s1 g1 hk h => by
  simp only [C', Ctx.add, Ctx.kill]
  rw [if_neg hk]
  split
  ·rfl
  ·exact h
 have ext : Ext C w C' w := by
  refine ⟨oldv, fun b _ ⟨s1, g1, y, h1, h2, h3⟩ => ?_, fun _ _ _ => rfl, Nat.le_refl _⟩
  rcases old s1 g1 y h1 h2 with ⟨_, _, rfl⟩ | ⟨_, _, q1, q2⟩
  ·exact ⟨s, g, _, hu, hlv, h3⟩
  ·exact ⟨s1, g1, y, q1, q2, h3⟩
 refine ⟨N, C', u, ⟨I.size, I.defers, fun k d hk => ?_, fun s1 g1 b hb => ?_, fun s1 g1 b y v hy h1 h2 h3 => ?_, fun s1 g1 u1 s2 g2 u2 b h1 h2 h3 h4 h5 h6 => ?_, fun s1 g1 y b h1 h2 h3 => ?_, fun s1 => ?_, I.frame, fun s1 g1 y h => oldv _ _ _ (I.old _ _ _ h),
  fun b hb ho => I.owned b hb (ext.owns b (Nat.lt_of_lt_of_le hb I.frame.size) ho), fun s1 g1 y h1 h2 h4 => ?_, fun s1 g1 y z hy hz => ?_, fun s1 g1 y h1 h2 => ?_, I.bound0⟩, hu, hv', ext⟩
 ·obtain ⟨y, hy, hr⟩ := I.slots k d hk
  exact ⟨y, hy, hr.mono ext⟩
 ·rw [look_hput] at hb
  split at hb
  ·rename_i e
   subst e
   simp only [Option.some.injEq, Prod.mk.injEq] at hb
   obtain ⟨rfl, rfl⟩ := hb
   have hH := I.heap s g x hx
   cases x with
   | box cs =>
    obtain ⟨b, arr, ty, q1, _, q3, q4, q5⟩ := hH
    rw [hu] at q1
    simp only [Option.some.injEq] at q1
    subst q1
    exact ⟨b, arr, ty, hv', hl', q3, q4, fun j c u hc hu => ⟨(q5 j c u hc hu).1.mono ext, (q5 j c u hc hu).2⟩⟩
   | row e k es =>
    obtain ⟨v, xs, q1, _, q3, q4, q5⟩ := hH
    rw [hu] at q1
    simp only [Option.some.injEq] at q1
    subst q1
    exact ⟨_, xs, hv', hl', q3, q4, fun i j e' c x h1 h2 h3 => ⟨(q5 i j e' c x h1 h2 h3).1.mono ext, (q5 i j e' c x h1 h2 h3).2⟩⟩
   | froz k es => cases hn
   | map es =>
    obtain ⟨r, arr, clock, q1, _, q3, q4, q5⟩ := hH
    rw [hu] at q1
    simp only [Option.some.injEq] at q1
    subst q1
    exact ⟨r, arr, clock, hv', hl', q3, q4, fun j e x h1 h2 => ⟨(q5 j e x h1 h2).1, (q5 j e x h1 h2).2.mono ext⟩⟩
   | bld t nr gr =>
    obtain ⟨b, p, v, q1, _, q3, q4, q5⟩ := hH
    rw [hu] at q1
    simp only [Option.some.injEq] at q1
    subst q1
    exact ⟨b, p, v, hv', hl', q3, q4, ext.val _ _ _ q5⟩
   | brow e l =>
    obtain ⟨v, q1, _, q3⟩ := hH
    rw [hu] at q1
    simp only [Option.some.injEq] at q1
    subst q1
    exact ⟨_, hv', hl', q3⟩
  ·obtain ⟨h1, h2⟩ := look_erase hb
   exact (I.heap s1 g1 b h2).keep ext (fun h => oldl _ _ (fun h2 => h1 h2.1) h) (fun _ _ _ _ _ => rfl)
 ·rw [look_hput] at hy
  split at hy
  ·rename_i e
   subst e
   simp only [Option.some.injEq, Prod.mk.injEq] at hy
   obtain ⟨rfl, rfl⟩ := hy
   rw [hv'] at h2
   simp only [Option.some.injEq] at h2
   subst h2
   rcases I.mine s g b x u hx hlv hu h3 with h | ⟨h, h0⟩
   ·exact .inl h
   ·exact .inr ⟨h, h9 h0⟩
  ·rename_i hs1
   obtain ⟨q1, q2⟩ := look_erase hy
   rcases old s1 g1 v h2 h1 with ⟨e1, _⟩ | ⟨_, _, p1, p2⟩
   ·exact absurd e1.symm hs1
   ·exact I.mine s1 g1 b y v q2 p2 p1 h3
 ·rcases old s1 g1 u1 h1 h2 with ⟨rfl, rfl, rfl⟩ | ⟨n1, n2, p1, p2⟩ <;> rcases old s2 g2 u2 h3 h4 with ⟨e1, e2, rfl⟩ | ⟨m1, m2, q1, q2⟩
  ·exact ⟨e1.symm, e2.symm⟩
  ·exact absurd (I.apart s2 g2 u2 s g u1 b q1 q2 hu hlv h6 h5) m2
  ·exact absurd (I.apart s1 g1 u1 s g u2 b p1 p2 hu hlv h5 h6) n2
  ·exact I.apart _ _ _ _ _ _ _ p1 p2 q1 q2 h5 h6
 ·rcases old s1 g1 y h1 h2 with ⟨rfl, rfl, rfl⟩ | ⟨_, _, p1, p2⟩
  ·exact I.bound s g y b hu hlv h3
  ·exact I.bound s1 g1 y b p1 p2 h3
 ·obtain ⟨M, hM⟩ := I.fresh s1
  refine ⟨max M (N + 1), fun g1 hg1 => ?_⟩
  simp only [C', Ctx.add, Ctx.kill]
  rw [if_neg (by omega)]
  exact hM g1 (by omega)
 ·refine oldl _ _ (fun ⟨e1, e2⟩ => ?_) (I.kept _ _ _ h1 h2 h4)
  subst e1 e2
  exact h4 (I.ents _ _ _ _ hx h1)
 ·rw [look_hput] at hy
  split at hy
  ·rename_i e
   subst e
   simp only [Option.some.injEq, Prod.mk.injEq] at hy
   obtain ⟨rfl, rfl⟩ := hy
   have := I.old _ _ _ hz
   rw [hg] at this; cases this
  ·exact I.ents s1 g1 y z (look_erase hy).2 hz
 ·have := I.old _ _ _ h1
  rcases old s1 g1 y (oldv _ _ _ this) h2 with ⟨rfl, rfl, rfl⟩ | ⟨_, _, p1, p2⟩
  ·rw [hg] at this; cases this
  ·exact I.dead0 _ _ _ h1 p2
end
theorem awp_renrow {c : Code} (t s' : Nat) {s g e k : Nat} {es : List (List D)} (hl : look S.slots t = some (.own s g)) (hx : look S.heap s = some (g, .row e k es)) (h9 : 900000 ≤ s → 900000 ≤ s')
  (h : ∀ g', AWp P n c (((S.drop s).hput s' g' (.row e k es)).put t (.own s' g')) Q) : AWp P n c S Q := by
 intro w0 B C0 C a w E I
 obtain ⟨g', C', u, I', hu, hv, ext⟩ := I.rename hx rfl s' h9
 obtain ⟨x, hx1, hr⟩ := I.slots t _ hl
 refine h g' E (Inv.reslot I' (d := .own s g) hl fun v hv' => ?_)
 cases hv' with
 | own _ _ _ h1 h2 =>
  have := ext.val _ _ _ hu
  rw [h1] at this
  simp only [Option.some.injEq] at this
  subst this
  exact .own _ _ _ hv h2
theorem awp_renbox {c : Code} (t s' : Nat) {s g off : Nat} {cs : List D} (hl : look S.slots t = some (.ptr s g off)) (hx : look S.heap s = some (g, .box cs)) (h9 : 900000 ≤ s → 900000 ≤ s')
  (h : ∀ g', AWp P n c (((S.drop s).hput s' g' (.box cs)).put t (.ptr s' g' off)) Q) : AWp P n c S Q := by
 intro w0 B C0 C a w E I
 obtain ⟨g', C', u, I', hu, hv, ext⟩ := I.rename hx rfl s' h9
 refine h g' E (Inv.reslot I' (d := .ptr s g off) hl fun v hv' => ?_)
 cases hv' with
 | ptr _ _ _ b h1 =>
  have := ext.val _ _ _ hu
  rw [h1] at this
  simp only [Option.some.injEq] at this
  subst this
  exact .ptr _ _ _ _ hv
theorem awp_frzbox {c : Code} (t : Nat) {s g : Nat} {cs : List D} (hl : look S.slots t = some (.ptr s g 0)) (hx : look S.heap s = some (g, .box cs))
  (h : AWp P n c ((S.drop s).put t (.rd cs)) Q) : AWp P n c S Q := by
 intro w0 B C0 C a w E I
 obtain ⟨b, arr, ty, h1, h2, h3, h4, h5⟩ := I.heap s g _ hx
 refine h E (Inv.reslot (I.leave hx) (d := .ptr s g 0) hl fun v hv' => ?_)
 cases hv' with
 | ptr _ _ _ b' q1 =>
  have q1 : C.val s g = some (.pointer (some ⟨b', 0, none⟩)) := q1
  rw [h1] at q1
  simp only [Option.some.injEq, Value.pointer.injEq, Addr.mk.injEq, and_true] at q1
  subst q1
  refine .rd cs b 0 (fun j => arr.getD j undef) (fun j c hj => ⟨fun ⟨s', g', u', p1, p2, p3⟩ => ?_, ?_⟩) fun j c hj => ?_
  ·simp only [Ctx.kill] at p1 p2
   split at p2
   ·cases p2
   ·rename_i hne
    exact hne (I.apart s' g' u' s g _ b p1 p2 h1 h2 p3 rfl)
  ·have hj' : j < arr.size := by rw [h4]; exact (List.getElem?_eq_some_iff.1 hj).1
   simp [World.cell?, h3, hj']
  ·have hj' : j < arr.size := by rw [h4]; exact (List.getElem?_eq_some_iff.1 hj).1
   have := (h5 j c arr[j] hj (by simp [hj'])).1.mono (Ext.kill C w s g)
   simpa [hj'] using this
variable {P : Program} [HasGlob P] [HasPan P]
variable {P : Program} [HasGlob P] [HasPan P] {n : Nat} {S : St}
theorem callA_l {df : D} {f : FuncId} {caps ds : List D} {tys : List TypeId} {k : St → D → Prop} (ss : List Nat) (hf : FunD df f caps) (hh : ds.flatMap (lentHs S ss) = [])
  (h : ∀ args, lentL P S ss tys ds ++ caps = args → ∃ es R, ACall P f args es ss R ∧ covL S.heap es ∧ ∀ ps r, ps.length = ss.length → R ps r → k (putPs S ss ps) r) : CallA P df ds tys S k := by
 obtain ⟨es, R, h1, h2, h3⟩ := h _ rfl
 exact callA_lent hf rfl hh h1 h2 h3
end Go.Eng
set_option linter.unusedSectionVars false
namespace Go.Eng
open Go.RowKit Go.WideShapes Go.ChangeShapes
/-! arguments read as abstract values -/
def noCtx : Ctx := ⟨fun _ _ => none, fun _ _ => false⟩
theorem noCtx_ok (w : World) : CtxOk noCtx w := ⟨fun _ _ _ _ _ _ _ h => by simp [noCtx] at h, fun _ _ _ _ h => by simp [noCtx] at h, fun _ => ⟨0, fun _ _ => rfl⟩⟩
def RepC (w : World) (ds : List D) (cs : List Value) : Prop := cs.length = ds.length ∧ ∀ (j : Nat) d c, ds[j]? = some d → cs[j]? = some c → Rep noCtx w d c
theorem RepC.nil {w : World} : RepC w [] [] := ⟨rfl, fun j d c h => by simp at h⟩
theorem RepC.one {w : World} {d : D} {c : Value} (h : Rep noCtx w d c) : RepC w [d] [c] := ⟨rfl, fun j d' c' h1 h2 => by
 cases j with
 | zero => simp at h1 h2; subst h1; subst h2; exact h
 | succ j => simp at h1⟩
def OpensD {α : Type} (P : Program) (t : TypeId) (f : α → List D) (Q : α → Prop) : Prop :=
 ∀ {H : Type} (enc : TypeId × Value → H) (w : World) (spare : Nat → Bool) (held : Bool) (fuel : Nat) (cs : List Value) (x : DataW H × List MemPlace),
  DataW.trod enc P w 0 spare held fuel t cs = some x → ∃ a, RepC w (f a) cs ∧ Q a
variable {P : Program} [HasGlob P] [HasPan P]
theorem OpensD.iso {α β : Type} {t : TypeId} {f : α → List D} {Q : α → Prop} {f' : β → List D} {Q' : β → Prop} (h : OpensD P t f Q) (g : α → β) (hf : ∀ a, f' (g a) = f a) (hq : ∀ a, Q a → Q' (g a)) : OpensD P t f' Q' :=
 fun enc w spare held fuel cs x hx => by
  obtain ⟨a, h1, h2⟩ := h enc w spare held fuel cs x hx
  exact ⟨g a, by rw [hf]; exact h1, hq _ h2⟩
/-! structs: field by field -/
def OpensSD {α : Type} (P : Program) (fs : List Field) (o e : Nat) (f : α → List D) (Q : α → Prop) : Prop :=
 ∀ {H : Type} (enc : TypeId × Value → H) (w : World) (spare : Nat → Bool) (held : Bool) (fuel : Nat) (cs : List Value) (xs : List (DataW H × List MemPlace)), cs.length = e →
  xs.length = fs.length → (∀ (i : Nat) (g : Field), fs[i]? = some g → DataW.trod enc P w 0 spare held fuel g.type ((cs.drop g.offset).take (P.cellsOf g.type)) = xs[i]?) → ∃ a, RepC w (f a) (cs.drop o) ∧ Q a
/-! a parameter: one value -/
def OpensVD {α : Type} (P : Program) (t : TypeId) (f : α → D) (Q : α → Prop) : Prop :=
 ∀ {H : Type} (enc : TypeId × Value → H) (w : World) (spare : Nat → Bool) (held : Bool) (base : Nat) (v : Value) (d : DataW H) (ps : List MemPlace), Value.okWide P w .any base t v →
  DataW.Trod enc P w 0 spare held t v d ps → ∃ a, Rep noCtx w (f a) v ∧ Q a
def cellKind : Option TypeDesc → Bool
 | some .bool | some (.int _) | some .string | some (.slice _) => true
 | _ => false
/-! the parameters of a law -/
def OpensLD {α : Type} (P : Program) (ts : List TypeId) (f : α → List D) (Q : α → Prop) : Prop :=
 ∀ {H : Type} (enc : TypeId × Value → H) (w : World) (spare : Nat → Bool) (held : Bool) (base : Nat) (vs : List Value) (ds : List (DataW H)) (ps : List MemPlace), (∀ (j : Nat) t v, ts[j]? = some t → vs[j]? = some v → Value.okWide P w .any base t v) →
  DataW.TrodAll enc P w 0 spare held ts vs ds ps → ∃ a, RepL noCtx w (f a) vs ∧ Q a
/-! the same, folded -/
structure Opens {α : Type} (P : Program) (t : TypeId) (f : α → List D) (Q : α → Prop) : Prop where
 run : OpensD P t f Q
structure OpensS {α : Type} (P : Program) (fs : List Field) (o e : Nat) (f : α → List D) (Q : α → Prop) : Prop where
 run : OpensSD P fs o e f Q
structure OpensV {α : Type} (P : Program) (t : TypeId) (f : α → D) (Q : α → Prop) : Prop where
 run : OpensVD P t f Q
structure OpensL {α : Type} (P : Program) (ts : List TypeId) (f : α → List D) (Q : α → Prop) : Prop where
 run : OpensLD P ts f Q
theorem Opens.iso {α β : Type} {t : TypeId} {f : α → List D} {Q : α → Prop} {f' : β → List D} {Q' : β → Prop} (h : Opens P t f Q) (g : α → β) (hf : ∀ a, f' (g a) = f a) (hq : ∀ a, Q a → Q' (g a)) : Opens P t f' Q' :=
 ⟨OpensD.iso (@Opens.run _ _ _ _ _ h) g hf hq⟩
theorem trodAll_len {H : Type} {enc : TypeId × Value → H} {w : World} {base : Nat} {sp : Nat → Bool} {held : Bool} : ∀ {ts : List TypeId} {vs : List Value} {ds : List (DataW H)} {ps : List MemPlace}, DataW.TrodAll enc P w base sp held ts vs ds ps → ds.length = ts.length
 | [], [], [], _, _ => rfl
 | [], _ :: _, _, _, h => h.elim
 | [], [], _ :: _, _, h => h.elim
 | _ :: _, [], _, _, h => h.elim
 | _ :: _, _ :: _, [], _, h => h.elim
 | _ :: _, _ :: _, _ :: _, _, h => by
  obtain ⟨_, _, _, h2, _⟩ := h
  simp [trodAll_len h2]
theorem trodAll_spare {H : Type} {enc : TypeId × Value → H} (hl : laidOutB P = true) {W W' : World} (hb : Below W.heap.size W W') {sp : Nat → Bool} : ∀ {ts : List TypeId} {vs : List Value} {ds : List (DataW H)} {ps : List MemPlace},
  (ts.all fun t => P.readableRec t && decide (t < P.types.size)) = true → DataW.TrodAll enc P W 0 (fun _ => true) true ts vs ds ps → (∀ x ∈ ps, x.block < W.heap.size) → (∀ x ∈ ps, sp x.block = true) → DataW.TrodAll enc P W' 0 sp true ts vs ds ps
 | [], [], [], _, _, h, _, _ => h
 | [], _ :: _, _, _, _, h, _, _ => h.elim
 | [], [], _ :: _, _, _, h, _, _ => h.elim
 | _ :: _, [], _, _, _, h, _, _ => h.elim
 | _ :: _, _ :: _, [], _, _, h, _, _ => h.elim
 | t :: ts, v :: vs, d :: ds, ps, hr, h, hlt, hsp => by
  obtain ⟨p, q, h1, h2, rfl⟩ := h
  simp only [List.all_cons, Bool.and_eq_true, decide_eq_true_eq] at hr
  exact ⟨p, q, WideElems.Trod_stays hl hr.1.1 hr.1.2 h1 (fun x hx => hb.same (hlt x (by simp [hx]))) (fun x hx => hsp x (by simp [hx])), trodAll_spare hl hb hr.2 h2 (fun x hx => hlt x (by simp [hx])) (fun x hx => hsp x (by simp [hx])), rfl⟩
theorem post_below {H : Type} {enc : TypeId × Value → H} {f : Func} {s : ChangeSpec} {apart fresh handsOn again : Bool} {W W' : World} {args : Array Value} {v : Value} {ds gs : List (DataW H)} {before pa pv : List MemPlace}
  (hW : DataW.Whole enc P f.params.toList s.vars apart W args.toList ds gs before)
  (hres : ∀ (b : Nat) (sp : Nat → Bool) (hd : Bool), DataW.TrodAll enc P W' b sp hd f.resultTypes.toList (v.resultList f.resultTypes.size) (s.fn H (ds ++ gs)).results [])
  (hargs : ∀ sp : Nat → Bool, (∀ p ∈ before, sp p.block = true) → DataW.TrodAll enc P W' 0 sp true f.params.toList args.toList (s.fn H (ds ++ gs)).args pa)
  (hvars : ∀ sp : Nat → Bool, (∀ p ∈ before, sp p.block = true) → DataW.TrodVars enc P W' sp s.vars (s.fn H (ds ++ gs)).vars pv)
  (hps : before = pa ++ pv) (hb : Below W.heap.size W W')
  (hok : ∀ (j : Nat) (t : TypeId) (r : Value), f.resultTypes[j]? = some t → (v.resultList f.resultTypes.size)[j]? = some r → Value.okWide P W' .any 0 t r) :
  s.post enc P f apart fresh handsOn again W args v W' := by
 have hlt : ∀ p ∈ before, p.block < W.heap.size := fun p hp => hW.lt p hp
 have hold : ∀ p ∈ before, (fun b => decide (b < W.heap.size)) p.block = true := fun p hp => by simpa using hlt p hp
 refine ⟨ds, gs, before, [], pa, pv, hW, hres _ _ _, hargs _ hold, hvars _ hold, World.keptBut_mono (fun p hp => ⟨hp, ?_⟩) (hb.frame (· ∈ before)), fun _ => ?_⟩
 ·rw [hps, List.mem_append] at hp
  exact Or.inr hp
 ·obtain ⟨_, _, _, _, _, hz, hn⟩ := hW
  refine ⟨hok, _, _, ([] ++ pa) ++ pv, ⟨[] ++ pa, pv, trodAll_append (hargs _ (fun _ _ => rfl)) (hres _ _ _), hvars _ (fun _ _ => rfl), rfl, ?_, ?_⟩, ?_⟩
  ·intro b off hp
   have hin : MemPlace.cell b off ∈ before := by rw [hps]; simpa using hp
   rw [hb.frozen (hlt _ hin)]
   exact hz b off hin
  ·intro ha
   have := hn ha
   rw [hps] at this
   simpa using this
  ·intro p hp _
   rw [hps]
   simpa using hp
end Go.Eng
set_option linter.unusedSectionVars false
namespace Go.Eng
variable {P : Program} [HasGlob P] [HasPan P] {n : Nat} {S : St} {Q : Exit → St → Prop}
/-! what reads as one value reads as another -/
def Weak (d d' : D) : Prop := ∀ (C : Ctx) (w : World) (u : Value), Rep C w d u → Rep C w d' u
theorem Weak.refl (d : D) : Weak d d := fun _ _ _ h => h
theorem Weak.nil (k : Nat) : Weak (.v (.slice none 0 0)) (.sl k []) := fun _ _ _ h => by cases h; exact .slE _ _ _ (Nat.zero_le _)
def WeakL : List D → List D → Prop
 | [], [] => True
 | d :: ds, d' :: ds' => Weak d d' ∧ WeakL ds ds'
 | _, _ => False
theorem WeakL.at : ∀ {ds ds' : List D}, WeakL ds ds' → ds'.length = ds.length ∧ ∀ (j : Nat) d', ds'[j]? = some d' → ∃ d, ds[j]? = some d ∧ Weak d d'
 | [], [], _ => ⟨rfl, fun j d' h => by simp at h⟩
 | [], _ :: _, h => h.elim
 | _ :: _, [], h => h.elim
 | d :: ds, d' :: ds', h => by
  obtain ⟨h1, h2⟩ := WeakL.at h.2
  refine ⟨by simp [h1], fun j x hx => ?_⟩
  cases j with
  | zero => simp at hx; subst hx; exact ⟨d, rfl, h.1⟩
  | succ j => exact h2 j x (by simpa using hx)
def WeakLL : List (List D) → List (List D) → Prop
 | [], [] => True
 | d :: ds, d' :: ds' => WeakL d d' ∧ WeakLL ds ds'
 | _, _ => False
theorem WeakLL.at : ∀ {ds ds' : List (List D)}, WeakLL ds ds' → ds'.length = ds.length ∧ ∀ (j : Nat) d', ds'[j]? = some d' → ∃ d, ds[j]? = some d ∧ WeakL d d'
 | [], [], _ => ⟨rfl, fun j d' h => by simp at h⟩
 | [], _ :: _, h => h.elim
 | _ :: _, [], h => h.elim
 | d :: ds, d' :: ds', h => by
  obtain ⟨h1, h2⟩ := WeakLL.at h.2
  refine ⟨by simp [h1], fun j x hx => ?_⟩
  cases j with
  | zero => simp at hx; subst hx; exact ⟨d, rfl, h.1⟩
  | succ j => exact h2 j x (by simpa using hx)
theorem Weak.agg {cs cs' : List D} (h : WeakL cs cs') : Weak (.agg cs) (.agg cs') := fun C w u hr => by
 obtain ⟨h1, h2⟩ := h.at
 cases hr with
 | agg _ us hn hh =>
  refine .agg _ us (by omega) fun j c u hc hu => ?_
  obtain ⟨c0, hc0, hw⟩ := h2 j c hc
  exact hw _ _ _ (hh j c0 u hc0 hu)
theorem Weak.tup {cs cs' : List D} (h : WeakL cs cs') : Weak (.tup cs) (.tup cs') := fun C w u hr => by
 obtain ⟨h1, h2⟩ := h.at
 cases hr with
 | tup _ us hn hh =>
  refine .tup _ us (by omega) fun j c u hc hu => ?_
  obtain ⟨c0, hc0, hw⟩ := h2 j c hc
  exact hw _ _ _ (hh j c0 u hc0 hu)
theorem Weak.sl {k : Nat} {es es' : List (List D)} (h : WeakLL es es') : Weak (.sl k es) (.sl k es') := fun C w u hr => by
 obtain ⟨h1, h2⟩ := h.at
 cases hr with
 | slE _ a cap hm =>
  have : es' = [] := List.length_eq_zero_iff.1 (by simpa using h1)
  subst this
  exact .slE _ _ _ hm
 | sl _ _ b o cap us hl hm hk hc hh =>
  rw [← h1]
  refine .sl k es' b o cap us (by omega) hm (fun e he => ?_) (fun i j e c hi hj => ?_) (fun i j e c hi hj => ?_)
  ·obtain ⟨i, hi, rfl⟩ := List.getElem_of_mem he
   obtain ⟨e0, he0, hw⟩ := h2 i _ (List.getElem?_eq_getElem hi)
   rw [hw.at.1]; exact hk e0 (List.mem_of_getElem? he0)
  ·obtain ⟨e0, he0, hw⟩ := h2 i e hi
   obtain ⟨c0, hc0, _⟩ := hw.at.2 j c hj
   exact hc i j e0 c0 he0 hc0
  ·obtain ⟨e0, he0, hw⟩ := h2 i e hi
   obtain ⟨c0, hc0, hw2⟩ := hw.at.2 j c hj
   exact hw2 _ _ _ (hh i j e0 c0 he0 hc0)
end Go.Eng
set_option linter.unusedSectionVars false
namespace Go.Eng
variable {P : Program} [HasGlob P] [HasPan P] {n : Nat} {S : St} {Q : Exit → St → Prop}
theorem look_erase_ne {α : Type} : ∀ {l : List (Nat × α)} {i k : Nat}, k ≠ i → look (eraseK l i) k = look l k
 | [], i, k, h => rfl
 | (j, x) :: l, i, k, h => by
  have ih := look_erase_ne (l := l) h
  simp only [eraseK]
  split
  ·rename_i e; subst e
   rw [ih]; simp only [look]
   rw [if_neg (fun e => h e.symm)]
  ·simp only [look, ih]
section
variable {w0 : World} {B : Nat → Nat → Prop} {C0 : Ctx} {C : Ctx} {a : Act} {w : World}
theorem Inv.rowSet (I : Inv w0 B C0 n S C a w) {so go e k : Nat} {es es' : List (List D)} (hl : look S.heap so = some (go, .row e k es)) (hn : es'.length = es.length) (hk : ∀ x ∈ es', x.length = k)
  (h : ∀ (i j : Nat) x x' c c' u, es[i]? = some x → x[j]? = some c → es'[i]? = some x' → x'[j]? = some c' → Rep C w c u → u.oneCell' = true → Rep C w c' u) : Inv w0 B C0 n (S.hput so go (.row e k es')) C a w := by
 refine ⟨I.size, I.defers, I.slots, fun s g b hb => ?_, fun s g b x u hx => ?_, I.apart, I.bound, I.fresh, I.frame, I.old, I.owned, I.kept, fun s g x y hx => ?_, I.dead0, I.bound0⟩
 ·rw [look_hput] at hb
  split at hb
  ·rename_i es
   subst es
   simp only [Option.some.injEq, Prod.mk.injEq] at hb
   obtain ⟨rfl, rfl⟩ := hb
   obtain ⟨u, xs, h1, h2, h3, h4, h5⟩ := I.heap _ _ _ hl
   refine ⟨u, xs, h1, h2, by rw [hn]; exact h3, hk, fun i j x' c' y hx' hc' hy => ?_⟩
   have hi : i < es.length := by rw [← hn]; exact (List.getElem?_eq_some_iff.1 hx').1
   have hx := List.getElem?_eq_getElem hi
   have hj : j < es[i].length := by
    rw [h4 _ (List.mem_of_getElem? hx), ← hk _ (List.mem_of_getElem? hx')]
    exact (List.getElem?_eq_some_iff.1 hc').1
   obtain ⟨hr, ho⟩ := h5 i j _ _ y hx (List.getElem?_eq_getElem hj) hy
   exact ⟨h i j _ _ _ _ _ hx (List.getElem?_eq_getElem hj) hx' hc' hr ho, ho⟩
  ·exact I.heap s g b hb
 ·rw [look_hput] at hx
  split at hx
  ·rename_i es
   subst es
   simp only [Option.some.injEq, Prod.mk.injEq] at hx
   obtain ⟨rfl, rfl⟩ := hx
   exact I.mine _ _ b _ u hl
  ·exact I.mine s g b x u hx
 ·rw [look_hput] at hx
  split at hx
  ·rename_i es
   subst es
   simp only [Option.some.injEq, Prod.mk.injEq] at hx
   obtain ⟨rfl, rfl⟩ := hx
   exact I.ents _ _ _ y hl
  ·exact I.ents s g x y hx
end
theorem awp_frzin {c : Code} (s sb j : Nat) {g e k gb : Nat} {es : List (List D)} {cs : List D} (hx : look S.heap s = some (g, .row e k es)) (hb : look S.heap sb = some (gb, .box cs)) (hne : sb ≠ s) (hj : cs[j]? = some (.own s g))
  (h : AWp P n c ((S.drop s).hput sb gb (.box (cs.set j (.sl k es)))) Q) : AWp P n c S Q := by
 intro w0 B C0 C a w E I
 obtain ⟨u, xs, h1, h2, _⟩ := I.heap s g _ hx
 refine h E ((I.leave hx).boxSet (cs := cs) ((look_erase_ne hne).trans hb) (by simp) fun i cc cc' v q1 q2 hr hone => ?_)
 rw [List.getElem?_set] at q2
 split at q2
 ·rename_i e1
  subst e1
  split at q2
  ·simp only [Option.some.injEq] at q2
   subst q2
   rw [hj] at q1
   simp only [Option.some.injEq] at q1
   subst q1
   cases hr with
   | own _ _ _ p1 _ =>
    have p1 : C.val s g = some v := p1
    rw [h1] at p1
    simp only [Option.some.injEq] at p1
    subst p1
    refine row_rep (I.heap s g _ hx) h1 (Ext.kill C w s g) fun b hb => ⟨fun ⟨s', g', u', r1, r2, r3⟩ => ?_, rfl⟩
    simp only [Ctx.kill] at r1 r2
    split at r2
    ·cases r2
    ·rename_i hn
     exact hn (I.apart s' g' u' s g _ b r1 r2 h1 h2 r3 hb)
  ·cases q2
 ·rw [q1] at q2
  simp only [Option.some.injEq] at q2
  subst q2
  exact hr
/-! families: row i of the family b lies at the site fs b i -/
def fs (b i : Nat) : Nat := 1000000 + (i * 64 + b % 64)
theorem fs_inj {b i j : Nat} : (fs b i = fs b j) = (i = j) := by unfold fs; rw [eq_iff_iff]; omega
theorem fs_ne {b b' i j : Nat} (h : b % 64 ≠ b' % 64) : (fs b i = fs b' j) = False := eq_false (by unfold fs; omega)
theorem fs_lt {b i s : Nat} (h : s < 1000000) : (fs b i = s) = False := eq_false (by unfold fs; omega)
theorem fs_lt' {b i s : Nat} (h : s < 1000000) : (s = fs b i) = False := eq_false (by unfold fs; omega)
theorem fs_nlt (b i : Nat) : (fs b i < 900000) = False := eq_false (by unfold fs; omega)
def fam {α : Type} (b e k : Nat) (f : α → List (List D)) : Nat → List (Nat × α) → List (Nat × (Nat × Blk))
 | _, [] => []
 | i, r :: rs => (fs b i, (r.1, .row e k (f r.2))) :: fam b e k f (i + 1) rs
def famO {α : Type} (b : Nat) : Nat → List (Nat × α) → List (List D)
 | _, [] => []
 | i, r :: rs => [.own (fs b i) r.1] :: famO b (i + 1) rs
def famP {α : Type} (e k : Nat) (f : α → List (List D)) (rs : List (Nat × α)) : List (Nat × Blk) := rs.map fun r => (r.1, .row e k (f r.2))
def famS (b : Nat) : Nat → Nat → List Nat
 | _, 0 => []
 | i, m + 1 => fs b i :: famS b (i + 1) m
section
variable {α : Type} {b e k : Nat} {f : α → List (List D)}
theorem famO_len : ∀ (rs : List (Nat × α)) (i : Nat), (famO b i rs).length = rs.length
 | [], i => rfl
 | r :: rs, i => by simp [famO, famO_len rs (i + 1)]
theorem famO_get' : ∀ (rs : List (Nat × α)) (i j : Nat), (famO b i rs)[j]? = rs[j]?.map fun r => [.own (fs b (i + j)) r.1]
 | [], i, j => by simp [famO]
 | r :: rs, i, 0 => by simp [famO]
 | r :: rs, i, j + 1 => by
  have := famO_get' rs (i + 1) j
  simp only [famO, List.getElem?_cons_succ, this]
  rw [show i + 1 + j = i + (j + 1) by omega]
theorem famO_get (rs : List (Nat × α)) (j : Nat) : (famO b 0 rs)[j]? = rs[j]?.map fun r => [.own (fs b j) r.1] := by
 rw [famO_get', Nat.zero_add]
theorem look_fam' : ∀ (rs : List (Nat × α)) (i j : Nat), look (fam b e k f i rs) (fs b (i + j)) = rs[j]?.map fun r => (r.1, .row e k (f r.2))
 | [], i, j => by simp [fam, look]
 | r :: rs, i, 0 => by simp [fam, look]
 | r :: rs, i, j + 1 => by
  have := look_fam' rs (i + 1) j
  simp only [fam, look]
  rw [if_neg (by rw [fs_inj]; omega), show i + (j + 1) = i + 1 + j by omega, this]
  simp
theorem look_fam (rs : List (Nat × α)) (j : Nat) : look (fam b e k f 0 rs) (fs b j) = rs[j]?.map fun r => (r.1, .row e k (f r.2)) := by
 have := look_fam' (b := b) (e := e) (k := k) (f := f) rs 0 j
 rwa [Nat.zero_add] at this
theorem look_fam0 (rs : List (Nat × α)) : look (fam b e k f 0 rs) (fs b 0) = rs[0]?.map fun r => (r.1, .row e k (f r.2)) := by
 exact look_fam rs 0
theorem look_fam_lt {s : Nat} : ∀ (rs : List (Nat × α)) (i : Nat), s < 1000000 → look (fam b e k f i rs) s = none
 | [], i, h => rfl
 | r :: rs, i, h => by
  simp only [fam, look]
  rw [if_neg (by rw [fs_lt h]; exact id), look_fam_lt rs (i + 1) h]
theorem erase_fam {s : Nat} : ∀ (rs : List (Nat × α)) (i : Nat), s < 1000000 → eraseK (fam b e k f i rs) s = fam b e k f i rs
 | [], i, h => rfl
 | r :: rs, i, h => by
  simp only [fam, eraseK]
  rw [if_neg (by rw [fs_lt h]; exact id), erase_fam rs (i + 1) h]
def FamIn (l : List (Nat × (Nat × Blk))) (b e k : Nat) (f : α → List (List D)) (i : Nat) (rs : List (Nat × α)) : Prop := ∀ (j : Nat) r, rs[j]? = some r → look l (fs b (i + j)) = some (r.1, .row e k (f r.2))
theorem covL_fam {l : List (Nat × (Nat × Blk))} : ∀ (rs : List (Nat × α)) (i : Nat), covL l (fam b e k f i rs) = FamIn l b e k f i rs
 | [], i => by simp [fam, covL, FamIn]
 | r :: rs, i => by
  have ih := covL_fam (l := l) rs (i + 1)
  simp only [fam, covL, ih, FamIn, eq_iff_iff]
  constructor
  ·rintro ⟨h1, h2⟩ j r' hj
   match j, hj with
   | 0, hj => simp at hj; subst hj; simpa using h1
   | j + 1, hj => have := h2 j r' (by simpa using hj); rwa [show i + 1 + j = i + (j + 1) by omega] at this
  ·intro h
   refine ⟨by simpa using h 0 r rfl, fun j r' hj => ?_⟩
   have := h (j + 1) r' (by simpa using hj)
   rwa [show i + (j + 1) = i + 1 + j by omega] at this
theorem FamIn.refl (rs : List (Nat × α)) (i : Nat) : FamIn (fam b e k f i rs) b e k f i rs := fun j r hj => by rw [look_fam', hj]; rfl
theorem FamIn.lt {l : List (Nat × (Nat × Blk))} {rs : List (Nat × α)} {i s : Nat} {x : Nat × Blk} (h : FamIn l b e k f i rs) (hs : s < 1000000) : FamIn ((s, x) :: l) b e k f i rs := fun j r hj => by
 simp only [look]
 rw [if_neg (by rw [fs_lt' hs]; exact id)]
 exact h j r hj
theorem FamIn.set {l : List (Nat × (Nat × Blk))} {rs : List (Nat × α)} {m g : Nat} {x : α} {es : List (List D)} (h : FamIn l b e k f 0 rs) (he : es = f x) : FamIn ((fs b m, (g, .row e k es)) :: l) b e k f 0 (rs.set m (g, x)) := fun j r hj => by
 subst he
 rw [List.getElem?_set] at hj
 simp only [look, Nat.zero_add]
 by_cases hm : m = j
 ·subst hm
  rw [if_pos rfl] at hj
  split at hj
  ·simp only [Option.some.injEq] at hj; subst hj; simp
  ·cases hj
 ·rw [if_neg hm] at hj
  rw [if_neg (by rw [fs_inj]; exact hm)]
  have := h j r hj
  rwa [Nat.zero_add] at this
theorem FamIn.same {l : List (Nat × (Nat × Blk))} {rs : List (Nat × α)} {m g : Nat} {x : α} {es : List (List D)} (h : FamIn l b e k f 0 rs) (hm : rs[m]? = some (g, x)) (he : es = f x) : FamIn ((fs b m, (g, .row e k es)) :: l) b e k f 0 rs := by
 have := FamIn.set (m := m) (g := g) h he
 obtain ⟨h1, h2⟩ := List.getElem?_eq_some_iff.1 hm
 rwa [← h2, List.set_getElem_self] at this
theorem putPs_fam {S : St} : ∀ (rs : List (Nat × α)) (i m : Nat), rs.length = m → putPs S (famS b i m) (famP e k f rs) = ⟨S.slots, fam b e k f i rs ++ S.heap⟩
 | [], i, m, hm => by subst hm; rfl
 | r :: rs, i, m, hm => by
  subst hm
  have := putPs_fam (S := S) rs (i + 1) _ rfl
  simp only [famP, List.length_cons, famS, List.map_cons, putPs] at this ⊢
  rw [this]
  rfl
end
theorem erase_fam0 {α : Type} {b e k s : Nat} {f : α → List (List D)} (rs : List (Nat × α)) (h : s < 1000000) : eraseK (fam b e k f 0 rs) s = fam b e k f 0 rs := erase_fam rs 0 h
theorem look_fam_lt0 {α : Type} {b e k s : Nat} {f : α → List (List D)} (rs : List (Nat × α)) (h : s < 1000000) : look (fam b e k f 0 rs) s = none := look_fam_lt rs 0 h
theorem famIn_refl {α : Type} {b e k i : Nat} {f : α → List (List D)} (rs : List (Nat × α)) : FamIn (fam b e k f i rs) b e k f i rs = True := eq_true (FamIn.refl rs i)
theorem famIn_lt {α : Type} {b e k i s : Nat} {x : Nat × Blk} {f : α → List (List D)} {l : List (Nat × (Nat × Blk))} (rs : List (Nat × α)) (hs : s < 1000000) : FamIn ((s, x) :: l) b e k f i rs = FamIn l b e k f i rs := by
 rw [eq_iff_iff]
 refine ⟨fun h j r hj => ?_, fun h => h.lt hs⟩
 have := h j r hj
 simp only [look] at this
 rwa [if_neg (by rw [fs_lt' hs]; exact id)] at this
attribute [go_sem] famIn_refl famIn_lt putPs_fam fs_inj fs_ne fs_lt fs_lt' fs_nlt erase_fam0 look_fam_lt0 famO_get famO_len look_fam look_fam0 covL_fam Nat.zero_add
attribute [irreducible] fs
end Go.Eng
