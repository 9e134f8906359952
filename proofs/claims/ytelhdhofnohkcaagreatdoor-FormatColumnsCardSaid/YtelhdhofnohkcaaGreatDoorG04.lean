/- Part of a proof: see the last text. -/
import Derived.Test.YtelhdhofnohkcaaGreatDoorG02
import Derived.Test.YtelhdhofnohkcaaGreatDoorG03
import Derived.OpenShut
import Derived.OpenVars
import Derived.Below
import Derived.ChangeSame
import Derived.JoinedCond
import Derived.Handed
import Derived.JoinedOf
import Derived.Lib.LaidTab
import Derived.Lib.ItoaNum
import Derived.Lib.TrailingZeros
import Derived.Test.YtelhdhofnohkcaaGreatDoorTie
import Derived.Test.YtelhdhofnohkcaaGreatDoorCards
import Derived.Lay
import Derived.LaidMore
import Derived.SevenTiedAt
import Derived.LaidLaws
import Derived.Stop.LaidErr
import Derived.Shelf.Vars
set_option linter.unusedVariables false
set_option linter.unusedSimpArgs false
set_option linter.unusedSectionVars false
namespace Go.Eng
variable {P : Program} [HasGlob P] {n : Nat} {S : St} {Q : Exit → St → Prop}
attribute [go_sem] strK bytesD_map ifK look St.put St.hput St.set argS evK unwK evsK optI qK nilCmpK bothK binK cmpI arI fieldAddrK rowOf frozOf idxK lenK takeK cellsAt loadK ptrLike cutK upTo fillD putAt cellsOfD cellOk oneD Value.oneCell'
 frz1 frzK frzL dstOk stK mlenK appK copyK oneLL_map oneLL_nil oneLL_cons oneLL_take oneLL_drop oneLL_app oneLL_rep srcOf putK viewC viewL view hsC hs viewP hsP viewsL aops gcond thenQ blockQ covL res1 resL frzD frzDs nilC nilL nilD nilDs pack retQ convK dBytes
attribute [go_sem] D.v.injEq Value.bool.injEq Value.int.injEq beq_true beq_false exists_eq_left' exists_eq_left true_and and_true
@[irreducible] def Hold (p : Prop) : Prop := p
theorem Hold.mk {p : Prop} (h : p) : Hold p := by unfold Hold; exact h
theorem Hold.out {p : Prop} (h : Hold p) : p := by unfold Hold at h; exact h
theorem awp_sr {id : Nat} {ops : List Oper} {y : Code} (h : ∀ K : St → Prop, (∀ S', Hold (AWp P n y S' Q) → K S') → aops P n ops ops S K) : AWp P n (.seq (.region id ops.toArray false) y) S Q :=
 awp_seq (awp_region (h _ fun _ h => h.out))
theorem awp_r {id : Nat} {ops : List Oper} (h : ∀ K : St → Prop, (∀ S', Hold (Q .normal S') → K S') → aops P n ops ops S K) : AWp P n (.region id ops.toArray false) S Q := awp_region (h _ fun _ h => h.out)
def BR (b : Bool) (T F : Prop) : Prop := (b = true → T) ∧ (b = false → F)
theorem BR.intro {b : Bool} {T F : Prop} (h : b = true → T) (h' : b = false → F) : BR b T F := ⟨h, h'⟩
@[go_sem] theorem BR.t {T F : Prop} : BR true T F = T := by simp [BR]
@[go_sem] theorem BR.f {T F : Prop} : BR false T F = F := by simp [BR]
def brK (d : D) (T F : Prop) : Prop :=
 match d with
 | .v (.bool b) => BR b T F
 | _ => False
/-! where I have no memory of my own, a view is what it views -/
theorem viewC_none (sl : List (Nat × D)) (d : D) : viewC ⟨sl, []⟩ none d = d := by
 cases d with
 | v x => unfold viewC; split <;> simp_all
 | own s g => rfl
 | _ => rfl
theorem viewP_none (sl : List (Nat × D)) (d : D) : viewP ⟨sl, []⟩ d = d := by
 cases d with
 | v x => exact viewC_none sl (.v x)
 | _ => rfl
@[go_sem] theorem viewP_map_none (sl : List (Nat × D)) (cs : List D) : cs.map (viewP ⟨sl, []⟩) = cs := by
 have : (viewP ⟨sl, []⟩) = id := funext fun d => viewP_none sl d
 rw [this, List.map_id]
theorem hsP_none (sl : List (Nat × D)) (d : D) : hsP ⟨sl, []⟩ d = [] := by
 cases d with
 | ptr s g off => rfl
 | own s g => rfl
 | _ => rfl
@[go_sem] theorem hsP_flat_none (sl : List (Nat × D)) (cs : List D) : cs.flatMap (hsP ⟨sl, []⟩) = [] := by
 rw [List.flatMap_eq_nil_iff]
 exact fun d _ => hsP_none sl d
theorem awp_if {c : Operand} {x y : Code} (h : ∀ T F : Prop, (AWp P n x S Q → T) → (AWp P n y S Q → F) → evK true S c fun d => brK d T F) : AWp P n (.cond c x y) S Q := by
 refine awp_cond ?_
 have h := h _ _ id id
 have e : ∀ d, brK d (AWp P n x S Q) (AWp P n y S Q) → ∃ b, d = .v (.bool b) ∧ (b = true → AWp P n x S Q) ∧ (b = false → AWp P n y S Q) := fun d h => by
  unfold brK at h
  split at h
  ·rename_i b; exact ⟨b, rfl, h⟩
  ·exact h.elim
 unfold evK at h ⊢
 split at h
 ·exact e _ h
 ·exact e _ h
 ·exact h
 ·split at h
  ·unfold unwK at h ⊢
   split at h
   ·exact ⟨h.1, e _ h.2⟩
   ·exact e _ h
  ·exact h
attribute [go_sem] brK
theorem ag_w {ops : List Oper} {o : Oper} {K : St → Prop} (h : match gcond ops S o with | some c => dstOk n o.dst ∧ qK P c S o.op (fun d => K (S.set o.dst (.when c d))) | none => False) : AG P n ops o S K := by
 cases hg : gcond ops S o with
 | none => rw [hg] at h; exact h.elim
 | some c => rw [hg] at h; exact ag_when hg h.1 h.2
attribute [go_sem] aggCmpK eqCells lookupK mapAt mfind keyEq mapW mput mdel ptrCmpK arrCutK
end Go.Eng
set_option linter.unusedSectionVars false
namespace Go.Eng
variable {P : Program} [HasGlob P] {n : Nat} {S : St} {Q : Exit → St → Prop}
attribute [go_sem] opK kpK kpU List.mem_cons List.append_nil Option.toList Int.natCast_inj Int.ofNat_lt Int.ofNat_le frzHs
def qsK (P : Program) [HasGlob P] (n : Nat) (ops : List Oper) : List Nat → St → (St → Prop) → Prop
 | [], S, K => K S
 | i :: l, S, K =>
  match ops[i]? with
  | some o =>
   match o.guard with
   | none => dstOk n o.dst ∧ qK P true S o.op fun d => qsK P n ops l (S.set o.dst d) K
   | some _ =>
    match gcond ops S o with
    | some c => dstOk n o.dst ∧ qK P c S o.op fun d => qsK P n ops l (S.set o.dst (.when c d)) K
    | none => False
  | none => False
attribute [go_sem] qsK
theorem qsK_adr {ops : List Oper} {r : Ord} {N : List Nat} {K : St → Prop} : ∀ (l : List Nat) (S : St), qsK P n ops l S (fun S' => adr P n ops r N S' K) = adr P n ops (.qs l r) N S K
 | [], _ => rfl
 | i :: l, S => by
  show _ = adr P n ops (.q i (.qs l r)) N S K
  first | (simp only [qsK, adr, qsK_adr l]; done) | (simp only [qsK, adr, qsK_adr l]; rfl)
@[irreducible] def ADR (P : Program) [HasGlob P] (n : Nat) (ops : List Oper) (o : Ord) (N : List Nat) (S : St) (K : St → Prop) : Prop := adr P n ops o N S K
theorem ADR_eq (P : Program) [HasGlob P] (n : Nat) (ops : List Oper) (o : Ord) (N : List Nat) (S : St) (K : St → Prop) : ADR P n ops o N S K = adr P n ops o N S K := by unfold ADR; rfl
theorem adr_qs {ops : List Oper} {r : Ord} {N : List Nat} {K : St → Prop} {l : List Nat} (h : ∀ K' : St → Prop, (∀ S', ADR P n ops r N S' K → K' S') → qsK P n ops l S K') : ADR P n ops (.qs l r) N S K := by
 rw [ADR_eq, ← qsK_adr]
 exact h _ fun _ h => (ADR_eq ..).mp h
theorem adr_nil {ops : List Oper} {N : List Nat} {K : St → Prop} (h : K S) : ADR P n ops .nil N S K := by rw [ADR_eq]; exact h
theorem adr_two {ops : List Oper} {i j : Nat} {r r' : Ord} {N : List Nat} {K : St → Prop} (h : ADR P n ops (.one i r) N S K) (h' : ADR P n ops (.one j r') N S K) (_ : True := trivial) : ADR P n ops (.two i r j r') N S K := by
 rw [ADR_eq] at h h' ⊢
 unfold adr at h h' ⊢
 cases hi : ops[i]? with
 | none => rw [hi] at h; exact h.elim
 | some o =>
  cases hj : ops[j]? with
  | none => rw [hj] at h'; exact h'.elim
  | some o' =>
   rw [hi] at h
   rw [hj] at h'
   exact ⟨h, h'⟩
theorem adr_kq {ops : List Oper} {i j : Nat} {r r' : Ord} {N : List Nat} {K : St → Prop} (h : ADR P n ops (.qs [i] r) N S K) (h' : ADR P n ops (.one j r') N S K) : ADR P n ops (.kq i r j r') N S K := by
 rw [ADR_eq] at h h' ⊢
 replace h : adr P n ops (.q i r) N S K := h
 unfold adr at h h' ⊢
 cases hi : ops[i]? with
 | none => rw [hi] at h; exact h.elim
 | some o =>
  cases hj : ops[j]? with
  | none => rw [hj] at h'; exact h'.elim
  | some o' =>
   rw [hi] at h
   rw [hj] at h'
   exact ⟨h, h'⟩
theorem adr_three {ops : List Oper} {i j k : Nat} {r r1 r2 : Ord} {N : List Nat} {K : St → Prop} (h0 : ADR P n ops (.one i r) N S K) (h1 : ADR P n ops (.one j r1) N S K) (h2 : ADR P n ops (.one k r2) N S K) : ADR P n ops (.three i r j r1 k r2) N S K := by
 rw [ADR_eq] at h0 h1 h2 ⊢
 unfold adr at h0 h1 h2 ⊢
 refine ⟨?_, ?_, ?_⟩
 ·cases hi : ops[i]? with
  | none => rw [hi] at h0; exact h0.elim
  | some o => rw [hi] at h0; exact ⟨o, rfl, h0⟩
 ·cases hi : ops[j]? with
  | none => rw [hi] at h1; exact h1.elim
  | some o => rw [hi] at h1; exact ⟨o, rfl, h1⟩
 ·cases hi : ops[k]? with
  | none => rw [hi] at h2; exact h2.elim
  | some o => rw [hi] at h2; exact ⟨o, rfl, h2⟩
theorem adr_four {ops : List Oper} {i j k l : Nat} {r r1 r2 r3 : Ord} {N : List Nat} {K : St → Prop} (h0 : ADR P n ops (.one i r) N S K) (h1 : ADR P n ops (.one j r1) N S K) (h2 : ADR P n ops (.one k r2) N S K) (h3 : ADR P n ops (.one l r3) N S K) : ADR P n ops (.four i r j r1 k r2 l r3) N S K := by
 rw [ADR_eq] at h0 h1 h2 h3 ⊢
 unfold adr at h0 h1 h2 h3 ⊢
 refine ⟨?_, ?_, ?_, ?_⟩
 ·cases hi : ops[i]? with
  | none => rw [hi] at h0; exact h0.elim
  | some o => rw [hi] at h0; exact ⟨o, rfl, h0⟩
 ·cases hi : ops[j]? with
  | none => rw [hi] at h1; exact h1.elim
  | some o => rw [hi] at h1; exact ⟨o, rfl, h1⟩
 ·cases hi : ops[k]? with
  | none => rw [hi] at h2; exact h2.elim
  | some o => rw [hi] at h2; exact ⟨o, rfl, h2⟩
 ·cases hi : ops[l]? with
  | none => rw [hi] at h3; exact h3.elim
  | some o => rw [hi] at h3; exact ⟨o, rfl, h3⟩
theorem adr_kp3 {ops : List Oper} {i j k : Nat} {r r1 r2 : Ord} {N : List Nat} {K : St → Prop} (h0 : ADR P n ops (.kp i r) N S K) (h1 : ADR P n ops (.kp j r1) N S K) (h2 : ADR P n ops (.kp k r2) N S K) : ADR P n ops (.kp3 i r j r1 k r2) N S K := by
 rw [ADR_eq] at h0 h1 h2 ⊢
 unfold adr at h0 h1 h2 ⊢
 refine ⟨?_, ?_, ?_⟩
 ·cases hi : ops[i]? with
  | none => rw [hi] at h0; exact h0.elim
  | some o => rw [hi] at h0; exact ⟨o, rfl, h0⟩
 ·cases hi : ops[j]? with
  | none => rw [hi] at h1; exact h1.elim
  | some o => rw [hi] at h1; exact ⟨o, rfl, h1⟩
 ·cases hi : ops[k]? with
  | none => rw [hi] at h2; exact h2.elim
  | some o => rw [hi] at h2; exact ⟨o, rfl, h2⟩
theorem adr_kp2 {ops : List Oper} {i j : Nat} {r r' : Ord} {N : List Nat} {K : St → Prop} (h : ADR P n ops (.kp i r) N S K) (h' : ADR P n ops (.kp j r') N S K) : ADR P n ops (.kp2 i r j r') N S K := by
 rw [ADR_eq] at h h' ⊢
 unfold adr at h h' ⊢
 cases hi : ops[i]? with
 | none => rw [hi] at h; exact h.elim
 | some o =>
  cases hj : ops[j]? with
  | none => rw [hj] at h'; exact h'.elim
  | some o' =>
   rw [hi] at h
   rw [hj] at h'
   exact ⟨h, h'⟩
theorem awp_dr (order : Ord) (hm : P.follows .mixedOrders = true) {id : Nat} {ops : List Oper} {y : Code} (hsel : Region.noSelect ops.toArray = true)
  (hok : drOk ops.toArray order (Array.replicate ops.length false) false = true) (hlen : Nat.ble order.depth ops.length = true)
  (h : ∀ K : St → Prop, (∀ S', Hold (AWp P n y S' Q) → K S') → ADR P n ops order [] S K) : AWp P n (.seq (.region id ops.toArray true) y) S Q :=
 awp_seq (awp_draw hm order hsel hok (Nat.le_of_ble_eq_true hlen) ((ADR_eq ..).mp (h _ fun _ h => h.out)))
theorem awp_d (order : Ord) (hm : P.follows .mixedOrders = true) {id : Nat} {ops : List Oper} (hsel : Region.noSelect ops.toArray = true)
  (hok : drOk ops.toArray order (Array.replicate ops.length false) false = true) (hlen : Nat.ble order.depth ops.length = true)
  (h : ∀ K : St → Prop, (∀ S', Hold (Q .normal S') → K S') → ADR P n ops order [] S K) : AWp P n (.region id ops.toArray true) S Q :=
 awp_draw hm order hsel hok (Nat.le_of_ble_eq_true hlen) ((ADR_eq ..).mp (h _ fun _ h => h.out))
theorem awp_join {x y : Code} (S1 : St) (h : AWp P n x S (thenQ (fun S' => Cov S' S1) Q)) (h2 : AWp P n y S1 Q) : AWp P n (.seq x y) S Q :=
 awp_seq (awp_mono h fun e S' hq => by cases e <;> first | exact awp_cov hq h2 | exact hq)
/-! calls in a walk: what is handed over is worked out first -/
theorem callT_m {df : D} {f : FuncId} {caps ds : List D} {tys : List TypeId} {k : St → D → Prop} (hf : FunD df f caps) (hh : ds.flatMap (hs S) = []) (h : ∀ args, viewsL P S tys ds ++ caps = args → ∃ R, PCall P f args R ∧ ∀ r, R r → k S r) : CallT P df ds tys S k := by
 obtain ⟨R, h1, h2⟩ := h _ rfl
 exact callT_mem hf rfl hh h1 h2
theorem callT_f {df : D} {f : FuncId} {caps ds : List D} {tys : List TypeId} {k : St → D → Prop} (hf : FunD df f caps) (h : ∀ args, viewsL P S tys ds ++ caps = args → ∃ R, PCall P f args R ∧ ∀ r, R r → flat r = true ∧ k S r) : CallT P df ds tys S k := by
 obtain ⟨R, h1, h2⟩ := h _ rfl
 exact callT_flat hf rfl h1 h2
theorem callT_z {df : D} {f : FuncId} {caps ds : List D} {tys : List TypeId} {k : St → D → Prop} {hs' : List (Nat × Nat)} (hf : FunD df f caps) (hh : ds.flatMap (hs S) = hs') (h1 : ∀ p ∈ hs', (rowOf S p.1 p.2).isSome = true) (h2 : (hs'.map (·.1)).Nodup)
  (h : ∀ args, viewsL P S tys ds ++ caps = args → ∃ R, PCall P f args R ∧ ∀ r, R r → k (frzHs S hs') r) : CallT P df ds tys S k := by
 obtain ⟨R, q1, q2⟩ := h _ rfl
 exact callT_frz hf rfl hh q1 h1 h2 q2
theorem agc_f {df : D} {f : FuncId} {caps ds : List D} {tys : List TypeId} {c : Bool} {k : D → Prop} (r0 : D) (hf : FunD df f caps) (h : c = true → ∀ args, viewsL P S tys ds ++ caps = args → PCall P f args fun r => r = r0) (hfl : flat r0 = true) (hk : k r0) : AgC P c df ds tys S k :=
 ⟨r0, fun hc => callT_flat hf rfl (h hc _ rfl) (fun r hr => by subst hr; exact ⟨hfl, rfl, rfl⟩), hk⟩
theorem agc_m {df : D} {f : FuncId} {caps ds : List D} {tys : List TypeId} {c : Bool} {k : D → Prop} (r0 : D) (hf : FunD df f caps) (hh : ds.flatMap (hs S) = []) (h : c = true → ∀ args, viewsL P S tys ds ++ caps = args → PCall P f args fun r => r = r0) (hk : k r0) : AgC P c df ds tys S k :=
 ⟨r0, fun hc => callT_mem hf rfl hh (h hc _ rfl) (fun r hr => by subst hr; exact ⟨rfl, rfl⟩), hk⟩
theorem ag_c {ops : List Oper} {dst : Option Tmp} {fx : Operand} {args : Array Operand} {tys : Array TypeId} {ty : TypeId} {pos : String} {after : Array Edge} {guard : Option (Nat × Bool)} {K : St → Prop}
  (h : match gcond ops S ⟨dst, .call { callee := .value fx, args := args, argTypes := tys }, ty, pos, after, guard⟩ with
   | some c => dstOk n dst ∧ evK c S fx fun df => evsK c S args.toList fun ds => AgC P c df ds tys.toList S fun r => K (S.set dst (.when c r))
   | none => False) : AG P n ops ⟨dst, .call { callee := .value fx, args := args, argTypes := tys }, ty, pos, after, guard⟩ S K := by
 intro w0 B C0 C a w E I N Q hN
 cases hg : gcond ops S ⟨dst, .call { callee := .value fx, args := args, argTypes := tys }, ty, pos, after, guard⟩ with
 | none => rw [hg] at h; exact h.elim
 | some c =>
  rw [hg] at h
  obtain ⟨hd, h⟩ := h
  rw [gcond_ok I hg]
  cases c with
  | true =>
   rw [if_pos rfl]
   obtain ⟨df, ds, uf, us, ⟨r0, hK, hk⟩, hf, hrep, hrun⟩ := call_run (P := P) (o := ⟨dst, .call { callee := .value fx, args := args, argTypes := tys }, ty, pos, after, guard⟩) I rfl h
   obtain ⟨f, cs, hfe, hok, hcall⟩ := hK rfl us uf E I hrep hf
   unfold Oper.wp
   rw [hrun f cs hfe hok]
   refine hcall.mono ?_
   rintro e w' ⟨u, r, S', C', rfl, ⟨rfl, rfl⟩, hru, I', _⟩
   exact hN _ _ ⟨_, C', hk, I'.set (dstOk_spec hd) (.whenT _ _ hru)⟩
  | false =>
   rw [if_neg (by simp)]
   obtain ⟨df, hds, _⟩ := evK_ok I h
   obtain ⟨ds, ⟨r0, _, hk⟩, _⟩ := evsK_ok I hds
   exact hN _ _ ⟨_, C, hk, I.set (dstOk_spec hd) (.whenF _)⟩
def agK (P : Program) [HasGlob P] (n : Nat) (ops : List Oper) (o : Oper) (S : St) (K : St → Prop) : Prop :=
 match o.op with
 | .call { callee := .value fx, args, argTypes } => match gcond ops S o with
  | some c => dstOk n o.dst ∧ evK c S fx fun df => evsK c S args.toList fun ds => AgC P c df ds argTypes.toList S fun r => K (S.set o.dst (.when c r))
  | none => False
 | .buildSlice _ _ _ | .makeSlice _ _ _ | .call { callee := .builtin .append, .. } => gcond ops S o = some true ∧ stK P n S o K
 | op => match gcond ops S o with
  | some c => dstOk n o.dst ∧ qK P c S op fun d => K (S.set o.dst (.when c d))
  | none => False
theorem ag_x {ops : List Oper} {o : Oper} {K : St → Prop} (h : agK P n ops o S K) : AG P n ops o S K := by
 obtain ⟨dst, op, ty, pos, after, guard⟩ := o
 cases op with
 | call c =>
  obtain ⟨callee, args, argTypes⟩ := c
  cases callee with
  | value fx => exact ag_c h
  | builtin b => cases b <;> first | exact ag_w h | exact ag_true h.1 h.2
  | _ => exact ag_w h
 | buildSlice => exact ag_true h.1 h.2
 | makeSlice => exact ag_true h.1 h.2
 | _ => exact ag_w h
def adrK (P : Program) [HasGlob P] (n : Nat) (ops : List Oper) (o : Ord) (N : List Nat) (S : St) (K : St → Prop) (KK : Ord → List Nat → St → Prop) : Prop :=
 match o with
 | .nil => K S
 | .kp i r => match ops[i]? with
  | some o => kpK P n ops N S o (KK r)
  | none => False
 | .one i r => match ops[i]? with
  | some o => opK P n ops o S (KK r [])
  | none => False
 | .two i r j r' => ADR P n ops (.one i r) N S K ∧ ADR P n ops (.one j r') N S K
 | .three i r j r1 k r2 => ADR P n ops (.one i r) N S K ∧ ADR P n ops (.one j r1) N S K ∧ ADR P n ops (.one k r2) N S K
 | .four i r j r1 k r2 l r3 => ADR P n ops (.one i r) N S K ∧ ADR P n ops (.one j r1) N S K ∧ ADR P n ops (.one k r2) N S K ∧ ADR P n ops (.one l r3) N S K
 | .kp2 i r j r' => ADR P n ops (.kp i r) N S K ∧ ADR P n ops (.kp j r') N S K
 | .kp3 i r j r1 k r2 => ADR P n ops (.kp i r) N S K ∧ ADR P n ops (.kp j r1) N S K ∧ ADR P n ops (.kp k r2) N S K
 | .nb r => KK r [] S
 | .kq i r j r' => ADR P n ops (.qs [i] r) N S K ∧ ADR P n ops (.one j r') N S K
 | .sk i r => match ops[i]? with
  | some o => gcond ops S o = some false ∧ dstOk n o.dst ∧ KK r N (S.set o.dst (.v undef))
  | none => False
 | .q _ _ => False
theorem adr_y {ops : List Oper} {o : Ord} {N : List Nat} {K : St → Prop} (h : ∀ KK : Ord → List Nat → St → Prop, (∀ r N' S', ADR P n ops r N' S' K → KK r N' S') → adrK P n ops o N S K KK) : ADR P n ops o N S K := by
 have h := h (fun r N' S' => adr P n ops r N' S' K) fun _ _ _ h => (ADR_eq ..).mp h
 cases o with
 | nil => exact adr_nil h
 | two i r j r' => exact adr_two h.1 h.2
 | three i r j r1 k r2 => exact adr_three h.1 h.2.1 h.2.2
 | four i r j r1 k r2 l r3 => exact adr_four h.1 h.2.1 h.2.2.1 h.2.2.2
 | kq i r j r' => exact adr_kq h.1 h.2
 | kp2 i r j r' => exact adr_kp2 h.1 h.2
 | kp3 i r j r1 k r2 => exact adr_kp3 h.1 h.2.1 h.2.2
 | q i r => exact h.elim
 | sk i r =>
  simp only [adrK] at h
  rw [ADR_eq]; unfold adr
  cases ho : ops[i]? with
  | none => rw [ho] at h; exact h.elim
  | some o => rw [ho] at h; exact h
 | _ => rw [ADR_eq]; exact h
attribute [go_sem] agK adrK
end Go.Eng
set_option linter.unusedSectionVars false
namespace Go.Eng
variable {P : Program} [HasGlob P] {n : Nat} {S : St} {Q : Exit → St → Prop}
section
variable {w0 : World} {B : Nat → Nat → Prop} {C0 : Ctx} {C : Ctx} {a : Act} {w : World}
end
theorem awp_nilslot {c : Code} (t s e k : Nat) (hl : look S.slots t = some (.v (.slice none 0 0))) (h : ∀ g, AWp P n c ((S.hput s g (.row e k [])).put t (.own s g)) Q) : AWp P n c S Q := by
 intro w0 B C0 C a w E I
 obtain ⟨g, C', I'⟩ := I.nilRow hl s e k
 exact h g E I'
end Go.Eng
set_option linter.unusedSectionVars false
namespace Go.Eng
variable {P : Program} [HasGlob P]
def notFroz : Blk → Bool
 | .froz _ _ => false
 | _ => true
def LentB (es : List (Nat × (Nat × Blk))) : Nat → Nat → Prop := fun s g => ∃ x, look es s = some (g, x)
def Posts (C : Ctx) (w : World) (ss : List Nat) (ps : List (Nat × Blk)) : Prop := ps.length = ss.length ∧ ∀ (j : Nat) s p, ss[j]? = some s → ps[j]? = some p → HRep C w s p.1 p.2 ∧ notFroz p.2 = true
def putPs (S : St) : List Nat → List (Nat × Blk) → St
 | s :: ss, p :: ps => (putPs S ss ps).hput s p.1 p.2
 | _, _ => S
def ACall (P : Program) [HasGlob P] (f : FuncId) (args : List D) (es : List (Nat × (Nat × Blk))) (ss : List Nat) (R : List (Nat × Blk) → D → Prop) : Prop :=
 FnOk P f ∧ (∀ p ∈ es, 900000 ≤ p.1 ∧ notFroz p.2.2 = true ∧ p.1 ∈ ss) ∧
 ∀ (C : Ctx) (w : World) (us : List Value), CtxOk C w → GlobOk P C w → RepL C w args us → (∀ s g b, look es s = some (g, b) → HRep C w s g b) →
  Calls P f us.toArray w fun e w' => ∃ u r ps C', e = .returned u ∧ R ps r ∧ Rep C' w' r u ∧ CtxOk C' w' ∧ Ext C w C' w' ∧ Posts C' w' ss ps ∧
   (∀ (j : Nat) s p u b, ss[j]? = some s → ps[j]? = some p → C'.val s p.1 = some u → blk u = some b → w.heap.size ≤ b ∨ (bB C (LentB es) b ∧ 900000 ≤ s)) ∧
   (∀ (j : Nat) s p y, ss[j]? = some s → ps[j]? = some p → C.val s p.1 = some y → LentB es s p.1) ∧
   (∀ s g x, C.val s g = some x → ¬ LentB es s g → C'.live s g = C.live s g) ∧ (∀ s g x, C.val s g = some x → C'.live s g = true → C.live s g = true) ∧
   Frm w (bB C (LentB es)) w'
section
variable {w0 : World} {B : Nat → Nat → Prop} {C0 : Ctx} {n : Nat} {S : St} {C : Ctx} {a : Act} {w : World}
theorem putPs_slots : ∀ {ss : List Nat} {ps : List (Nat × Blk)}, (putPs S ss ps).slots = S.slots
 | [], _ => rfl
 | _ :: _, [] => rfl
 | _ :: ss, _ :: ps => putPs_slots (ss := ss) (ps := ps)
theorem putPs_look : ∀ {ss : List Nat} {ps : List (Nat × Blk)} {s g : Nat} {x : Blk}, ps.length = ss.length → look (putPs S ss ps).heap s = some (g, x) → (∃ j : Nat, ss[j]? = some s ∧ ps[j]? = some (g, x)) ∨ (s ∉ ss ∧ look S.heap s = some (g, x))
 | [], [], s, g, x, _, h => .inr ⟨by simp, h⟩
 | [], _ :: _, s, g, x, hl, h => by simp at hl
 | _ :: _, [], s, g, x, hl, h => by simp at hl
 | s0 :: ss, p :: ps, s, g, x, hl, h => by
  simp only [putPs] at h
  rw [look_hput] at h
  split at h
  ·rename_i e
   subst e
   simp only [Option.some.injEq] at h
   exact .inl ⟨0, rfl, by simp [← h]⟩
  ·rename_i hne
   rcases putPs_look (by simpa using hl) h with ⟨j, h1, h2⟩ | ⟨h1, h2⟩
   ·exact .inl ⟨j + 1, h1, h2⟩
   ·exact .inr ⟨by simp; exact ⟨fun e => hne e.symm, h1⟩, h2⟩
theorem HRep.liveOf {s g : Nat} {x : Blk} (h : HRep C w s g x) (hn : notFroz x = true) : C.live s g = true ∧ ∃ u, C.val s g = some u := by
 cases x with
 | box cs => obtain ⟨_, _, _, h1, h2, _⟩ := h; exact ⟨h2, _, h1⟩
 | row e k es => obtain ⟨_, _, h1, h2, _⟩ := h; exact ⟨h2, _, h1⟩
 | froz k es => cases hn
 | map es => obtain ⟨_, _, _, h1, h2, _⟩ := h; exact ⟨h2, _, h1⟩
 | bld t nr gr => obtain ⟨_, _, _, h1, h2, _⟩ := h; exact ⟨h2, _, h1⟩
 | brow e l => obtain ⟨_, h1, h2, _⟩ := h; exact ⟨h2, _, h1⟩
theorem Inv.afterL (I : Inv w0 B C0 n S C a w) {C' : Ctx} {w' : World} {es : List (Nat × (Nat × Blk))} {ss : List Nat} {ps : List (Nat × Blk)}
  (hes : ∀ s g x, look es s = some (g, x) → look S.heap s = some (g, x) ∧ 900000 ≤ s ∧ notFroz x = true ∧ s ∈ ss)
  (e : Ext C w C' w') (hk : CtxOk C' w') (hp : Posts C' w' ss ps)
  (hm : ∀ (j : Nat) s p u b, ss[j]? = some s → ps[j]? = some p → C'.val s p.1 = some u → blk u = some b → w.heap.size ≤ b ∨ (bB C (LentB es) b ∧ 900000 ≤ s))
  (he : ∀ (j : Nat) s p y, ss[j]? = some s → ps[j]? = some p → C.val s p.1 = some y → LentB es s p.1)
  (hl : ∀ s g x, C.val s g = some x → ¬ LentB es s g → C'.live s g = C.live s g) (hd : ∀ s g x, C.val s g = some x → C'.live s g = true → C.live s g = true)
  (hf : Frm w (bB C (LentB es)) w') : Inv w0 B C0 n (putPs S ss ps) C' a w' := by
 -- a lent block is not one of the frame's
 have lentMine : ∀ b, bB C (LentB es) b → w0.heap.size ≤ b ∨ bB C0 B b := fun b ⟨s, g, u, ⟨x, hx⟩, h2, h3⟩ => by
  obtain ⟨q1, q2, q3, _⟩ := hes s g x hx
  rcases I.mine s g b x u q1 ((I.heap s g x q1).liveOf q3).1 h2 h3 with h | h
  ·exact .inl h
  ·exact .inr h.1
 have lentNot : ∀ s g u b, s ∉ ss → C.val s g = some u → C.live s g = true → blk u = some b → ¬ bB C (LentB es) b := fun s g u b hs h1 h2 h3 ⟨s', g', u', ⟨x, hx⟩, h4, h5⟩ => by
  obtain ⟨q1, q2, q3, q4⟩ := hes s' g' x hx
  obtain ⟨rfl, rfl⟩ := I.apart s g u s' g' u' b h1 h2 h4 ((I.heap s' g' x q1).liveOf q3).1 h3 h5
  exact hs q4
 refine ⟨I.size, I.defers, fun k d hk' => ?_, fun s g b hb' => ?_, fun s g b x u hx h1 h2 h3 => ?_, hk.apart, hk.bound, hk.fresh,
  ⟨hf.os.trans I.frame.os, hf.tape.trans I.frame.tape, hf.output.trans I.frame.output, Nat.le_trans I.frame.size hf.size, fun b hb' hn => (hf.block b (Nat.lt_of_lt_of_le hb' I.frame.size) (fun hh => ?_)).trans (I.frame.block b hb' hn)⟩,
  fun s g x hx => e.val _ _ _ (I.old _ _ _ hx), fun b hb' ho => I.owned b hb' (e.owns b (Nat.lt_of_lt_of_le hb' I.frame.size) ho), fun s g u h1 h2 h4 => ?_, fun s g x y hx hy => ?_, fun s g x h1 h2 => I.dead0 _ _ _ h1 (hd _ _ _ (I.old _ _ _ h1) h2), I.bound0⟩
 ·rw [putPs_slots] at hk'
  obtain ⟨u, hu, hr⟩ := I.slots k d hk'
  exact ⟨u, hu, hr.mono e⟩
 ·rcases putPs_look hp.1 hb' with ⟨j, q1, q2⟩ | ⟨hn, hb'⟩
  ·exact (hp.2 j s (g, b) q1 q2).1
  ·have hH := I.heap s g b hb'
   have hval : ∃ x, C.val s g = some x := by
    cases b with
    | box cs => obtain ⟨_, _, _, h, _⟩ := hH; exact ⟨_, h⟩
    | row e k es => obtain ⟨_, _, h, _⟩ := hH; exact ⟨_, h⟩
    | froz k es => obtain ⟨_, h, _⟩ := hH; exact ⟨_, h⟩
    | map es => obtain ⟨_, _, _, h, _⟩ := hH; exact ⟨_, h⟩
    | bld t nr gr => obtain ⟨_, _, _, h, _⟩ := hH; exact ⟨_, h⟩
    | brow e l => obtain ⟨_, h, _⟩ := hH; exact ⟨_, h⟩
   obtain ⟨x, hx⟩ := hval
   refine hH.keep e (fun h => ?_) (fun u k h1 h2 h3 => hf.block k (I.bound _ _ _ _ h1 h2 h3) (lentNot s g u k hn h1 h2 h3))
   rw [hl s g x hx (fun ⟨y, hy⟩ => hn (hes _ _ _ hy).2.2.2)]; exact h
 ·rcases putPs_look hp.1 hx with ⟨j, q1, q2⟩ | ⟨hn, hx⟩
  ·rcases hm j s (g, x) u b q1 q2 h2 h3 with h | ⟨h, h9⟩
   ·exact .inl (Nat.le_trans I.frame.size h)
   ·rcases lentMine b h with h | h
    ·exact .inl h
    ·exact .inr ⟨h, h9⟩
  ·have hH := I.heap s g x hx
   have hval : ∃ y, C.val s g = some y := by
    cases x with
    | box cs => obtain ⟨_, _, _, h, _⟩ := hH; exact ⟨_, h⟩
    | row e k es => obtain ⟨_, _, h, _⟩ := hH; exact ⟨_, h⟩
    | froz k es => obtain ⟨_, h, _⟩ := hH; exact ⟨_, h⟩
    | map es => obtain ⟨_, _, _, h, _⟩ := hH; exact ⟨_, h⟩
    | bld t nr gr => obtain ⟨_, _, _, h, _⟩ := hH; exact ⟨_, h⟩
    | brow e l => obtain ⟨_, h, _⟩ := hH; exact ⟨_, h⟩
   obtain ⟨y, hy⟩ := hval
   have : y = u := by have := e.val _ _ _ hy; rw [h2] at this; exact (Option.some.inj this).symm
   subst this
   exact I.mine s g b x y hx (hd _ _ _ hy h1) hy h3
 ·rcases lentMine b hh with h | h
  ·omega
  ·exact hn h
 ·rw [hl s g u (I.old _ _ _ h1) (fun ⟨x, hx⟩ => h4 (I.ents s g x u (hes _ _ _ hx).1 h1))]
  exact I.kept s g u h1 h2 h4
 ·rcases putPs_look hp.1 hx with ⟨j, q1, q2⟩ | ⟨hn, hx⟩
  ·obtain ⟨x', hx'⟩ := he j s (g, x) y q1 q2 (I.old _ _ _ hy)
   exact I.ents s g x' y (hes _ _ _ hx').1 hy
  ·exact I.ents s g x y hx hy
def lentD (P : Program) (S : St) (ss : List Nat) (t : TypeId) (d : D) : D :=
 match d with
 | .own s g => if ss.contains s then .own s g else view S (cellTys P t) d
 | .ptr s g off => if ss.contains s then .ptr s g off else view S (cellTys P t) d
 | d => view S (cellTys P t) d
def lentL (P : Program) (S : St) (ss : List Nat) : List TypeId → List D → List D
 | t :: ts, d :: ds => lentD P S ss t d :: lentL P S ss ts ds
 | [], ds => ds
 | _, [] => []
def lentHs (S : St) (ss : List Nat) (d : D) : List (Nat × Nat) :=
 match d with
 | .own s g => if ss.contains s then [] else hs S d
 | .ptr s g off => if ss.contains s then [] else hs S d
 | d => hs S d
theorem lentL_ok (I : Inv w0 B C0 n S C a w) {ss : List Nat} : ∀ {tys : List TypeId} {ds : List D} {us : List Value}, ds.flatMap (lentHs S ss) = [] → RepL C w ds us → RepL C w (lentL P S ss tys ds) us
 | _, [], us, _, h => by
  cases us with
  | nil => unfold lentL; cases ‹List TypeId› <;> exact ⟨rfl, fun j d u hd _ => by simp at hd⟩
  | cons u us => have := h.1; simp at this
 | [], d :: ds, us, hsub, h => h
 | t :: tys, d :: ds, us, hsub, h => by
  cases us with
  | nil => have := h.1; simp at this
  | cons u us =>
   simp only [List.flatMap_cons, List.append_eq_nil_iff] at hsub
   have ih := lentL_ok I (tys := tys) hsub.2 ⟨by have := h.1; simpa using this, fun j d u hd hu => h.2 (j + 1) d u (by simpa using hd) (by simpa using hu)⟩
   refine ⟨by simp [lentL, ih.1], fun j d' u' hd hu => ?_⟩
   cases j with
   | zero =>
    simp [lentL] at hd hu
    subst hd hu
    have h0 := h.2 0 d _ rfl rfl
    have vw : hs S d = [] → Rep C w (view S (cellTys P t) d) u := fun hh => view_ok I (fun _ _ => rfl) [] (fun _ _ => by simp) (by rw [hh]; simp) h0
    have h1 := hsub.1
    unfold lentD
    unfold lentHs at h1
    split
    ·split
     ·exact h0
     ·rename_i hc
      simp only at h1
      rw [if_neg hc] at h1
      exact vw h1
    ·split
     ·exact h0
     ·rename_i hc
      simp only at h1
      rw [if_neg hc] at h1
      exact vw h1
    ·rename_i hne hne2
     refine vw ?_
     split at h1
     ·rename_i s g; exact absurd rfl (hne s g)
     ·rename_i s g off; exact absurd rfl (hne2 s g off)
     ·exact h1
   | succ j => exact ih.2 j d' u' (by simpa [lentL] using hd) (by simpa using hu)
theorem look_mem {α : Type} : ∀ {l : List (Nat × α)} {k : Nat} {x : α}, look l k = some x → (k, x) ∈ l
 | [], k, x, h => by simp [look] at h
 | (k', y) :: l, k, x, h => by
  simp only [look] at h
  split at h
  ·rename_i e; subst e; simp at h; subst h; simp
  ·exact List.mem_cons_of_mem _ (look_mem h)
theorem callA_lent {df : D} {f : FuncId} {caps ds args : List D} {tys : List TypeId} {es : List (Nat × (Nat × Blk))} {ss : List Nat} {R : List (Nat × Blk) → D → Prop} {k : St → D → Prop} (hf : FunD df f caps)
  (hv : lentL P S ss tys ds ++ caps = args) (hh : ds.flatMap (lentHs S ss) = []) (h : ACall P f args es ss R) (hes : covL S.heap es) (hR : ∀ ps r, ps.length = ss.length → R ps r → k (putPs S ss ps) r) : CallA P df ds tys S k := by
 intro w0 B C0 n C a w us uf E I hr hu
 obtain ⟨cs, rfl, hcs⟩ := hf.rep hu
 refine ⟨f, cs, rfl, h.1, ?_⟩
 have hes' : ∀ s g x, look es s = some (g, x) → look S.heap s = some (g, x) ∧ 900000 ≤ s ∧ notFroz x = true ∧ s ∈ ss := fun s g x hx => by
  have hm := h.2.1 _ (look_mem hx)
  exact ⟨covL_ok hes s _ hx, hm⟩
 refine (h.2.2 C w (us ++ cs.toList) I.ctxOk (E.now I) (by rw [← hv]; exact (lentL_ok I hh hr).append hcs) (fun s g b hb => I.heap s g b (hes' s g b hb).1)).mono ?_
 rintro e w' ⟨u, r, ps, C', rfl, hRr, hru, hok, ext, hp, hm, he, hl, hd, hfrm⟩
 exact ⟨u, r, _, C', rfl, hR ps r hp.1 hRr, hru, I.afterL hes' ext hok hp hm he hl hd hfrm⟩
/-! the callee's side -/
def postK (S : St) : List Nat → (List (Nat × Blk) → Prop) → Prop
 | [], k => k []
 | s :: ss, k => match look S.heap s with
  | some (g, b) => notFroz b = true ∧ postK S ss fun ps => k ((g, b) :: ps)
  | none => False
def frzDA (ss : List Nat) (S : St) (d : D) (k : St → D → Prop) : Prop :=
 match d with
 | .own s g => if ss.contains s then k S (.own s g) else frzD S (.own s g) k
 | d => frzD S d k
def frzDsA (ss : List Nat) : St → List D → (St → List D → Prop) → Prop
 | S, [], k => k S []
 | S, d :: ds, k => frzDA ss S d fun S' d' => frzDsA ss S' ds fun S'' ds' => k S'' (d' :: ds')
def retA (P : Program) (rs : List ResultVar) (tys : List TypeId) (ss : List Nat) (R : List (Nat × Blk) → D → Prop) : Exit → St → Prop
 | .normal, S | .ret, S => resL P S rs fun ds => frzDsA ss S ds fun S' ds' => postK S' ss fun ps => R ps (pack (nilDs P tys ds'))
 | _, _ => False
theorem postK_ok : ∀ {ss : List Nat} {k : List (Nat × Blk) → Prop}, postK S ss k → ∃ ps, k ps ∧ ps.length = ss.length ∧ ∀ (j : Nat) s p, ss[j]? = some s → ps[j]? = some p → look S.heap s = some p ∧ notFroz p.2 = true
 | [], k, h => ⟨[], h, rfl, fun j s p hs _ => by simp at hs⟩
 | s :: ss, k, h => by
  unfold postK at h
  split at h
  ·rename_i g b hl
   obtain ⟨hn, h⟩ := h
   obtain ⟨ps, h1, h2, h3⟩ := postK_ok h
   refine ⟨(g, b) :: ps, h1, by simp [h2], fun j s' p hs hp => ?_⟩
   cases j with
   | zero => simp at hs hp; subst hs hp; exact ⟨hl, hn⟩
   | succ j => exact h3 j s' p (by simpa using hs) (by simpa using hp)
  ·exact h.elim
theorem frzDA_ok {ss : List Nat} (I : Inv w0 B C0 n S C a w) {d : D} {k : St → D → Prop} (h : frzDA ss S d k) : ∃ S' d' C', k S' d' ∧ Inv w0 B C0 n S' C' a w ∧ Ext C w C' w ∧ ∀ u, Rep C w d u → Rep C' w d' u := by
 unfold frzDA at h
 split at h
 ·split at h
  ·exact ⟨S, _, C, h, I, Ext.refl _ _, fun u hu => hu⟩
  ·exact frzD_ok I h
 ·exact frzD_ok I h
theorem frzDsA_ok {ss : List Nat} : ∀ {ds : List D} {S : St} {C : Ctx} (_ : Inv w0 B C0 n S C a w) {k : St → List D → Prop}, frzDsA ss S ds k →
  ∃ S' ds' C', k S' ds' ∧ Inv w0 B C0 n S' C' a w ∧ Ext C w C' w ∧ ∀ us, RepL C w ds us → RepL C' w ds' us
 | [], S, C, I, k, h => ⟨S, [], C, h, I, Ext.refl _ _, fun us h => h⟩
 | d :: ds, S, C, I, k, h => by
  obtain ⟨S1, d1, C1, h1, I1, e1, r1⟩ := frzDA_ok I h
  obtain ⟨S2, ds2, C2, h2, I2, e2, r2⟩ := frzDsA_ok I1 h1
  refine ⟨S2, d1 :: ds2, C2, h2, I2, e1.trans e2, fun us hus => ?_⟩
  cases us with
  | nil => have := hus.1; simp at this
  | cons u us =>
   have hr2 := r2 us ⟨by have := hus.1; simpa using this, fun j d u hd hu => (hus.2 (j + 1) d u (by simpa using hd) (by simpa using hu)).mono e1⟩
   refine ⟨by simp [hr2.1], fun j d' u' hd' hu' => ?_⟩
   cases j with
   | zero => simp at hd' hu'; subst hd' hu'; exact (r1 _ (hus.2 0 d _ rfl rfl)).mono e2
   | succ j => exact hr2.2 j d' u' (by simpa using hd') (by simpa using hu')
end
theorem acall_of {f : FuncId} {fn : Func} {c : Code} {args : List D} {es : List (Nat × (Nat × Blk))} {ss : List Nat} {R : List (Nat × Blk) → D → Prop} (hf : P.funcs[f]? = some fn) (hb : fn.body = some c) (hn : (fn.name == "runtime.NumGoroutine") = false) {n : Nat} {rs : List ResultVar} {tys : List TypeId} (hnt : fn.ntmps = n) (hrs : fn.results.toList = rs) (hty : fn.resultTypes.toList = tys) (hlen : args.length ≤ n)
  (hes : ∀ p ∈ es, 900000 ≤ p.1 ∧ notFroz p.2.2 = true ∧ p.1 ∈ ss) (h : AWp P n c ⟨argS 0 args, es⟩ (retA P rs tys ss R)) : ACall P f args es ss R := by
 subst hnt hrs hty
 refine ⟨⟨fn, hf, hn, by rw [hb]; rfl⟩, hes, fun C w us hc hg hr hent => ?_⟩
 refine calls_of_wp hf hb ?_
 have hsz : us.length = args.length := hr.1
 have hlive : ∀ s g, LentB es s g → C.live s g = true := fun s g ⟨x, hx⟩ => ((hent s g x hx).liveOf (hes _ (look_mem hx)).2.1).1
 let a : Act := { tmps := us.toArray ++ Array.replicate (fn.ntmps - us.toArray.size) undef, defers := [] }
 have I : Inv w (LentB es) C fn.ntmps ⟨argS 0 args, es⟩ C a w := by
  refine ⟨by simp [a]; omega, rfl, fun k d hk => ?_, fun s g b hb => hent s g b hb, fun s g b x u hx _ hv hbk => .inr ⟨⟨s, g, u, ⟨x, hx⟩, hv, hbk⟩, (hes _ (look_mem hx)).1⟩, hc.apart, hc.bound, hc.fresh, Frm.refl _ _, fun _ _ _ h => h, fun _ _ h => h, fun _ _ _ _ h _ => h,
   fun s g x y hx _ => ⟨x, hx⟩, fun _ _ _ _ h => h, fun s g u b h1 h2 h3 => hc.bound s g u b h1 h2 h3⟩
  obtain ⟨_, h2⟩ := argS_look hk
  rw [Nat.sub_zero] at h2
  have hlt : k < us.length := by rw [hsz]; exact (List.getElem?_eq_some_iff.1 h2).1
  have hu : us[k]? = some us[k] := List.getElem?_eq_getElem hlt
  refine ⟨us[k], ?_, hr.2 k d _ h2 hu⟩
  simp only [a]
  rw [Array.getElem?_append_left (by simpa using hlt)]
  simp [hu]
 refine wp_mono (h ⟨hg, hlive⟩ I) ?_
 rintro e a' w' ⟨S', C', hq, I'⟩
 have fin : (resL P S' fn.results.toList fun ds => frzDsA ss S' ds fun S'' ds' => postK S'' ss fun ps => R ps (pack (nilDs P fn.resultTypes.toList ds'))) →
   a'.defers = [] ∧ ∃ v, (results fn a'.tmps).run P w' = .ok v w' ∧ ∃ u r ps C'', Ending.returned v = .returned u ∧ R ps r ∧ Rep C'' w' r u ∧ CtxOk C'' w' ∧ Ext C w C'' w' ∧ Posts C'' w' ss ps ∧
   (∀ (j : Nat) s p u b, ss[j]? = some s → ps[j]? = some p → C''.val s p.1 = some u → blk u = some b → w.heap.size ≤ b ∨ (bB C (LentB es) b ∧ 900000 ≤ s)) ∧
   (∀ (j : Nat) s p y, ss[j]? = some s → ps[j]? = some p → C.val s p.1 = some y → LentB es s p.1) ∧
   (∀ s g x, C.val s g = some x → ¬ LentB es s g → C''.live s g = C.live s g) ∧ (∀ s g x, C.val s g = some x → C''.live s g = true → C.live s g = true) ∧
   Frm w (bB C (LentB es)) w' := fun hq => by
  refine ⟨I'.defers, ?_⟩
  obtain ⟨ds, us, hk, hrs, hlen, hrun⟩ := resL_ok I' hq
  obtain ⟨S2, ds', C2, hk2, I2, e2, hr'⟩ := frzDsA_ok I' hk
  obtain ⟨ps, hR, hpl, hpost⟩ := postK_ok hk2
  obtain ⟨u, hu, hpk⟩ := pack_ok (nilDs_ok (P := P) (tys := fn.resultTypes.toList) (hr' us hrs))
  refine ⟨u, ?_, u, _, ps, C2, rfl, hR, hu, ⟨I2.apart, I2.bound, I2.fresh⟩, ⟨I2.old, I2.owned, fun b hb hno => I2.frame.block b hb (fun ⟨s, g, v, q1, q2, q3⟩ => hno ⟨s, g, v, q2, hlive s g q1, q3⟩), I2.frame.size⟩,
   ⟨hpl, fun j s p h1 h2 => ⟨I2.heap s p.1 p.2 (hpost j s p h1 h2).1, (hpost j s p h1 h2).2⟩⟩, fun j s p v b h1 h2 h3 h4 => ?_, fun j s p y h1 h2 h3 => I2.ents s p.1 p.2 y (hpost j s p h1 h2).1 h3, fun s g x hx hnl => ?_, fun s g x h1 h2 => I2.dead0 s g x h1 h2, I2.frame⟩
  ·have hfun : (fun r : ResultVar => match r with | .tmp t => (pure (a'.tmps.getD t undef) : Sem Value) | .cell p ty => do loadVar ty (← asAddr (a'.tmps.getD p undef))) = rvSem a'.tmps := by
    funext r; cases r <;> rfl
   have hres : results fn a'.tmps = (do let vs ← fn.results.mapM (rvSem a'.tmps); pure (if h : vs.size = 1 then vs[0] else .tuple vs)) := by
    rw [← hfun]; rfl
   rw [hres, Array.mapM_eq_mapM_toList]
   simp only [Sem.run_bind, Sem.run_map, hrun, Result.andThen_ok, Sem.run_pure]
   rw [← hpk]
  ·obtain ⟨q1, q2⟩ := hpost j s p h1 h2
   exact I2.mine s p.1 b p.2 v q1 ((I2.heap _ _ _ q1).liveOf q2).1 h3 h4
  ·cases h0 : C.live s g with
   | true => exact I2.kept s g x hx h0 hnl
   | false =>
    cases h1 : C2.live s g with
    | false => rfl
    | true => rw [I2.dead0 s g x hx h1] at h0; cases h0
 cases e with
 | normal => exact fin hq
 | ret => exact fin hq
 | exit id => exact hq.elim
 | goto l => exact hq.elim
 | panic ch => exact hq.elim
 | outgrown => exact hq.elim
attribute [go_sem] retA frzDsA frzDA postK notFroz putPs lentL lentD lentHs List.contains_cons List.contains_nil
end Go.Eng
set_option linter.unusedSectionVars false
namespace Go.Eng
variable {P : Program} [HasGlob P] {n : Nat} {S : St} {Q : Exit → St → Prop}
def eraseK {α : Type} : List (Nat × α) → Nat → List (Nat × α)
 | [], _ => []
 | (k, x) :: l, i => if k = i then eraseK l i else (k, x) :: eraseK l i
theorem look_erase {α : Type} : ∀ {l : List (Nat × α)} {i k : Nat} {x : α}, look (eraseK l i) k = some x → k ≠ i ∧ look l k = some x
 | [], i, k, x, h => by simp [eraseK, look] at h
 | (k', y) :: l, i, k, x, h => by
  simp only [eraseK] at h
  split at h
  ·rename_i e
   obtain ⟨h1, h2⟩ := look_erase h
   refine ⟨h1, ?_⟩
   simp only [look]
   rw [if_neg (by rw [e]; exact fun h => h1 h.symm)]
   exact h2
  ·rename_i e
   simp only [look] at h
   split at h
   ·rename_i e2
    subst e2
    exact ⟨e, by simp [look]; simpa using h⟩
   ·rename_i e2
    obtain ⟨h1, h2⟩ := look_erase h
    exact ⟨h1, by simp only [look]; rw [if_neg e2]; exact h2⟩
def St.drop (S : St) (s : Nat) : St := ⟨S.slots, eraseK S.heap s⟩
attribute [go_sem] eraseK St.drop
section
variable {w0 : World} {B : Nat → Nat → Prop} {C0 : Ctx} {C : Ctx} {a : Act} {w : World}
theorem Inv.reslot (I : Inv w0 B C0 n S C a w) {t : Nat} {d d' : D} (hl : look S.slots t = some d) (h : ∀ u, Rep C w d u → Rep C w d' u) : Inv w0 B C0 n (S.put t d') C a w := by
 refine ⟨I.size, I.defers, fun k x hk => ?_, I.heap, I.mine, I.apart, I.bound, I.fresh, I.frame, I.old, I.owned, I.kept, I.ents, I.dead0, I.bound0⟩
 simp only [St.put, look] at hk
 split at hk
 ·rename_i e
  subst e
  simp only [Option.some.injEq] at hk
  subst hk
  obtain ⟨u, hu, hr⟩ := I.slots _ _ hl
  exact ⟨u, hu, h u hr⟩
 ·exact I.slots k x hk
theorem Ext.kill (C : Ctx) (w : World) (s g : Nat) : Ext C w (C.kill s g) w := by
 refine ⟨fun _ _ _ h => h, fun b _ ⟨s', g', u', q1, q2, q3⟩ => ?_, fun _ _ _ => rfl, Nat.le_refl _⟩
 simp only [Ctx.kill] at q1 q2
 split at q2
 ·cases q2
 ·exact ⟨s', g', u', q1, q2, q3⟩
theorem Inv.leave (I : Inv w0 B C0 n S C a w) {s g : Nat} {x : Blk} (hx : look S.heap s = some (g, x)) : Inv w0 B C0 n (S.drop s) (C.kill s g) a w := by
 have ext := Ext.kill C w s g
 have lv : ∀ s' g', (C.kill s g).live s' g' = true → C.live s' g' = true ∧ ¬ (s' = s ∧ g' = g) := fun s' g' h => by
  simp only [Ctx.kill] at h
  split at h
  ·cases h
  ·rename_i h2; exact ⟨h, h2⟩
 have lv2 : ∀ s' g', C.live s' g' = true → ¬ (s' = s ∧ g' = g) → (C.kill s g).live s' g' = true := fun s' g' h h2 => by
  simp only [Ctx.kill]; rw [if_neg h2]; exact h
 refine ⟨I.size, I.defers, fun k d hk => ?_, fun s' g' b' hb' => ?_, fun s' g' b' y u' hy q1 q2 q3 => ?_, fun s1 g1 u1 s2 g2 u2 b' q1 q2 q3 q4 q5 q6 => I.apart _ _ _ _ _ _ _ q1 (lv _ _ q2).1 q3 (lv _ _ q4).1 q5 q6,
  fun s' g' u' b' q1 q2 q3 => I.bound _ _ _ _ q1 (lv _ _ q2).1 q3, I.fresh, I.frame, I.old, fun b hb ho => I.owned b hb (ext.owns b (Nat.lt_of_lt_of_le hb I.frame.size) ho), fun s' g' u' q1 q2 q4 => ?_,
  fun s' g' y z hy hz => I.ents s' g' y z (look_erase hy).2 hz, fun s' g' y q1 q2 => I.dead0 _ _ _ q1 (lv _ _ q2).1, I.bound0⟩
 ·obtain ⟨y, hy, hr⟩ := I.slots k d hk
  exact ⟨y, hy, hr.mono ext⟩
 ·obtain ⟨h1, h2⟩ := look_erase hb'
  exact (I.heap s' g' b' h2).keep ext (fun h => lv2 _ _ h (fun h2 => h1 h2.1)) (fun _ _ _ _ _ => rfl)
 ·exact I.mine s' g' b' y u' (look_erase hy).2 (lv _ _ q1).1 q2 q3
 ·refine lv2 _ _ (I.kept _ _ _ q1 q2 q4) fun ⟨e1, e2⟩ => ?_
  subst e1 e2
  exact q4 (I.ents _ _ _ _ hx q1)
theorem Inv.rename (I : Inv w0 B C0 n S C a w) {s g : Nat} {x : Blk} (hx : look S.heap s = some (g, x)) (hn : notFroz x = true) (s' : Nat) (h9 : 900000 ≤ s → 900000 ≤ s') :
  ∃ g' C' u, Inv w0 B C0 n ((S.drop s).hput s' g' x) C' a w ∧ C.val s g = some u ∧ C'.val s' g' = some u ∧ Ext C w C' w := by
 obtain ⟨N, hN⟩ := I.fresh s'
 have hg := hN N (Nat.le_refl _)
 obtain ⟨hlv, u, hu⟩ := (I.heap s g x hx).liveOf hn
 have hne : ¬ (s = s' ∧ g = N) := fun ⟨e1, e2⟩ => by subst e1 e2; rw [hg] at hu; cases hu
 let C' : Ctx := (C.add s' N u).kill s g
 have hv' : C'.val s' N = some u := by simp [C', Ctx.add, Ctx.kill]
 have hl' : C'.live s' N = true := by
  simp only [C', Ctx.add, Ctx.kill]
  rw [if_neg (fun h => hne ⟨h.1.symm, h.2.symm⟩)]
  simp
 have old : ∀ s1 g1 y, C'.val s1 g1 = some y → C'.live s1 g1 = true → (s1 = s' ∧ g1 = N ∧ y = u) ∨ (¬ (s1 = s' ∧ g1 = N) ∧ ¬ (s1 = s ∧ g1 = g) ∧ C.val s1 g1 = some y ∧ C.live s1 g1 = true) := fun s1 g1 y h1 h2 => by
  simp only [C', Ctx.add, Ctx.kill] at h1 h2
  by_cases hk : s1 = s ∧ g1 = g
  ·rw [if_pos hk] at h2; cases h2
  ·rw [if_neg hk] at h2
   by_cases hN1 : s1 = s' ∧ g1 = N
   ·rw [if_pos hN1] at h1; simp only [Option.some.injEq] at h1; exact .inl ⟨hN1.1, hN1.2, h1.symm⟩
   ·rw [if_neg hN1] at h1 h2; exact .inr ⟨hN1, hk, h1, h2⟩
 have oldv : ∀ s1 g1 y, C.val s1 g1 = some y → C'.val s1 g1 = some y := fun s1 g1 y h => by
  simp only [C', Ctx.add, Ctx.kill]
  rw [if_neg]
  ·exact h
  ·rintro ⟨rfl, rfl⟩; rw [hg] at h; cases h
 have oldl : ∀ s1 g1, ¬ (s1 = s ∧ g1 = g) → C.live s1 g1 = true → C'.live s1 g1 = true := fun s1 g1 hk h => by
  simp only [C', Ctx.add, Ctx.kill]
  rw [if_neg hk]
  split
  ·rfl
  ·exact h
 have ext : Ext C w C' w := by
  refine ⟨oldv, fun b _ ⟨s1, g1, y, h1, h2, h3⟩ => ?_, fun _ _ _ => rfl, Nat.le_refl _⟩
  rcases old s1 g1 y h1 h2 with ⟨_, _, rfl⟩ | ⟨_, _, q1, q2⟩
  ·exact ⟨s, g, _, hu, hlv, h3⟩
  ·exact ⟨s1, g1, y, q1, q2, h3⟩
 refine ⟨N, C', u, ⟨I.size, I.defers, fun k d hk => ?_, fun s1 g1 b hb => ?_, fun s1 g1 b y v hy h1 h2 h3 => ?_, fun s1 g1 u1 s2 g2 u2 b h1 h2 h3 h4 h5 h6 => ?_, fun s1 g1 y b h1 h2 h3 => ?_, fun s1 => ?_, I.frame, fun s1 g1 y h => oldv _ _ _ (I.old _ _ _ h),
  fun b hb ho => I.owned b hb (ext.owns b (Nat.lt_of_lt_of_le hb I.frame.size) ho), fun s1 g1 y h1 h2 h4 => ?_, fun s1 g1 y z hy hz => ?_, fun s1 g1 y h1 h2 => ?_, I.bound0⟩, hu, hv', ext⟩
 ·obtain ⟨y, hy, hr⟩ := I.slots k d hk
  exact ⟨y, hy, hr.mono ext⟩
 ·rw [look_hput] at hb
  split at hb
  ·rename_i e
   subst e
   simp only [Option.some.injEq, Prod.mk.injEq] at hb
   obtain ⟨rfl, rfl⟩ := hb
   have hH := I.heap s g x hx
   cases x with
   | box cs =>
    obtain ⟨b, arr, ty, q1, _, q3, q4, q5⟩ := hH
    rw [hu] at q1
    simp only [Option.some.injEq] at q1
    subst q1
    exact ⟨b, arr, ty, hv', hl', q3, q4, fun j c u hc hu => ⟨(q5 j c u hc hu).1.mono ext, (q5 j c u hc hu).2⟩⟩
   | row e k es =>
    obtain ⟨v, xs, q1, _, q3, q4, q5⟩ := hH
    rw [hu] at q1
    simp only [Option.some.injEq] at q1
    subst q1
    exact ⟨_, xs, hv', hl', q3, q4, fun i j e' c x h1 h2 h3 => ⟨(q5 i j e' c x h1 h2 h3).1.mono ext, (q5 i j e' c x h1 h2 h3).2⟩⟩
   | froz k es => cases hn
   | map es =>
    obtain ⟨r, arr, clock, q1, _, q3, q4, q5⟩ := hH
    rw [hu] at q1
    simp only [Option.some.injEq] at q1
    subst q1
    exact ⟨r, arr, clock, hv', hl', q3, q4, fun j e x h1 h2 => ⟨(q5 j e x h1 h2).1, (q5 j e x h1 h2).2.mono ext⟩⟩
   | bld t nr gr =>
    obtain ⟨b, p, v, q1, _, q3, q4, q5⟩ := hH
    rw [hu] at q1
    simp only [Option.some.injEq] at q1
    subst q1
    exact ⟨b, p, v, hv', hl', q3, q4, ext.val _ _ _ q5⟩
   | brow e l =>
    obtain ⟨v, q1, _, q3⟩ := hH
    rw [hu] at q1
    simp only [Option.some.injEq] at q1
    subst q1
    exact ⟨_, hv', hl', q3⟩
  ·obtain ⟨h1, h2⟩ := look_erase hb
   exact (I.heap s1 g1 b h2).keep ext (fun h => oldl _ _ (fun h2 => h1 h2.1) h) (fun _ _ _ _ _ => rfl)
 ·rw [look_hput] at hy
  split at hy
  ·rename_i e
   subst e
   simp only [Option.some.injEq, Prod.mk.injEq] at hy
   obtain ⟨rfl, rfl⟩ := hy
   rw [hv'] at h2
   simp only [Option.some.injEq] at h2
   subst h2
   rcases I.mine s g b x u hx hlv hu h3 with h | ⟨h, h0⟩
   ·exact .inl h
   ·exact .inr ⟨h, h9 h0⟩
  ·rename_i hs1
   obtain ⟨q1, q2⟩ := look_erase hy
   rcases old s1 g1 v h2 h1 with ⟨e1, _⟩ | ⟨_, _, p1, p2⟩
   ·exact absurd e1.symm hs1
   ·exact I.mine s1 g1 b y v q2 p2 p1 h3
 ·rcases old s1 g1 u1 h1 h2 with ⟨rfl, rfl, rfl⟩ | ⟨n1, n2, p1, p2⟩ <;> rcases old s2 g2 u2 h3 h4 with ⟨e1, e2, rfl⟩ | ⟨m1, m2, q1, q2⟩
  ·exact ⟨e1.symm, e2.symm⟩
  ·exact absurd (I.apart s2 g2 u2 s g u1 b q1 q2 hu hlv h6 h5) m2
  ·exact absurd (I.apart s1 g1 u1 s g u2 b p1 p2 hu hlv h5 h6) n2
  ·exact I.apart _ _ _ _ _ _ _ p1 p2 q1 q2 h5 h6
 ·rcases old s1 g1 y h1 h2 with ⟨rfl, rfl, rfl⟩ | ⟨_, _, p1, p2⟩
  ·exact I.bound s g y b hu hlv h3
  ·exact I.bound s1 g1 y b p1 p2 h3
 ·obtain ⟨M, hM⟩ := I.fresh s1
  refine ⟨max M (N + 1), fun g1 hg1 => ?_⟩
  simp only [C', Ctx.add, Ctx.kill]
  rw [if_neg (by omega)]
  exact hM g1 (by omega)
 ·refine oldl _ _ (fun ⟨e1, e2⟩ => ?_) (I.kept _ _ _ h1 h2 h4)
  subst e1 e2
  exact h4 (I.ents _ _ _ _ hx h1)
 ·rw [look_hput] at hy
  split at hy
  ·rename_i e
   subst e
   simp only [Option.some.injEq, Prod.mk.injEq] at hy
   obtain ⟨rfl, rfl⟩ := hy
   have := I.old _ _ _ hz
   rw [hg] at this; cases this
  ·exact I.ents s1 g1 y z (look_erase hy).2 hz
 ·have := I.old _ _ _ h1
  rcases old s1 g1 y (oldv _ _ _ this) h2 with ⟨rfl, rfl, rfl⟩ | ⟨_, _, p1, p2⟩
  ·rw [hg] at this; cases this
  ·exact I.dead0 _ _ _ h1 p2
end
theorem awp_renbox {c : Code} (t s' : Nat) {s g off : Nat} {cs : List D} (hl : look S.slots t = some (.ptr s g off)) (hx : look S.heap s = some (g, .box cs)) (h9 : 900000 ≤ s → 900000 ≤ s')
  (h : ∀ g', AWp P n c (((S.drop s).hput s' g' (.box cs)).put t (.ptr s' g' off)) Q) : AWp P n c S Q := by
 intro w0 B C0 C a w E I
 obtain ⟨g', C', u, I', hu, hv, ext⟩ := I.rename hx rfl s' h9
 refine h g' E (Inv.reslot I' (d := .ptr s g off) hl fun v hv' => ?_)
 cases hv' with
 | ptr _ _ _ b h1 =>
  have := ext.val _ _ _ hu
  rw [h1] at this
  simp only [Option.some.injEq] at this
  subst this
  exact .ptr _ _ _ _ hv
theorem awp_frzbox {c : Code} (t : Nat) {s g : Nat} {cs : List D} (hl : look S.slots t = some (.ptr s g 0)) (hx : look S.heap s = some (g, .box cs))
  (h : AWp P n c ((S.drop s).put t (.rd cs)) Q) : AWp P n c S Q := by
 intro w0 B C0 C a w E I
 obtain ⟨b, arr, ty, h1, h2, h3, h4, h5⟩ := I.heap s g _ hx
 refine h E (Inv.reslot (I.leave hx) (d := .ptr s g 0) hl fun v hv' => ?_)
 cases hv' with
 | ptr _ _ _ b' q1 =>
  have q1 : C.val s g = some (.pointer (some ⟨b', 0, none⟩)) := q1
  rw [h1] at q1
  simp only [Option.some.injEq, Value.pointer.injEq, Addr.mk.injEq, and_true] at q1
  subst q1
  refine .rd cs b 0 (fun j => arr.getD j undef) (fun j c hj => ⟨fun ⟨s', g', u', p1, p2, p3⟩ => ?_, ?_⟩) fun j c hj => ?_
  ·simp only [Ctx.kill] at p1 p2
   split at p2
   ·cases p2
   ·rename_i hne
    exact hne (I.apart s' g' u' s g _ b p1 p2 h1 h2 p3 rfl)
  ·have hj' : j < arr.size := by rw [h4]; exact (List.getElem?_eq_some_iff.1 hj).1
   simp [World.cell?, h3, hj']
  ·have hj' : j < arr.size := by rw [h4]; exact (List.getElem?_eq_some_iff.1 hj).1
   have := (h5 j c arr[j] hj (by simp [hj'])).1.mono (Ext.kill C w s g)
   simpa [hj'] using this
variable {P : Program} [HasGlob P]
variable {P : Program} [HasGlob P] {n : Nat} {S : St}
theorem callA_l {df : D} {f : FuncId} {caps ds : List D} {tys : List TypeId} {k : St → D → Prop} (ss : List Nat) (hf : FunD df f caps) (hh : ds.flatMap (lentHs S ss) = [])
  (h : ∀ args, lentL P S ss tys ds ++ caps = args → ∃ es R, ACall P f args es ss R ∧ covL S.heap es ∧ ∀ ps r, ps.length = ss.length → R ps r → k (putPs S ss ps) r) : CallA P df ds tys S k := by
 obtain ⟨es, R, h1, h2, h3⟩ := h _ rfl
 exact callA_lent hf rfl hh h1 h2 h3
end Go.Eng
set_option linter.unusedSectionVars false
namespace Go.Eng
open Go.RowKit Go.WideShapes Go.ChangeShapes
/-! arguments read as abstract values -/
def noCtx : Ctx := ⟨fun _ _ => none, fun _ _ => false⟩
theorem noCtx_owns (b : Nat) : ¬ noCtx.owns b := fun ⟨_, _, _, h, _⟩ => by simp [noCtx] at h
theorem noCtx_ok (w : World) : CtxOk noCtx w := ⟨fun _ _ _ _ _ _ _ h => by simp [noCtx] at h, fun _ _ _ _ h => by simp [noCtx] at h, fun _ => ⟨0, fun _ _ => rfl⟩⟩
def RepC (w : World) (ds : List D) (cs : List Value) : Prop := cs.length = ds.length ∧ ∀ (j : Nat) d c, ds[j]? = some d → cs[j]? = some c → Rep noCtx w d c
theorem RepC.nil {w : World} : RepC w [] [] := ⟨rfl, fun j d c h => by simp at h⟩
theorem RepC.one {w : World} {d : D} {c : Value} (h : Rep noCtx w d c) : RepC w [d] [c] := ⟨rfl, fun j d' c' h1 h2 => by
 cases j with
 | zero => simp at h1 h2; subst h1; subst h2; exact h
 | succ j => simp at h1⟩
def OpensD {α : Type} (P : Program) (t : TypeId) (f : α → List D) (Q : α → Prop) : Prop :=
 ∀ {H : Type} (enc : TypeId × Value → H) (w : World) (spare : Nat → Bool) (held : Bool) (fuel : Nat) (cs : List Value) (x : DataW H × List MemPlace),
  DataW.trod enc P w 0 spare held fuel t cs = some x → ∃ a, RepC w (f a) cs ∧ Q a
variable {P : Program} [HasGlob P]
theorem OpensD.iso {α β : Type} {t : TypeId} {f : α → List D} {Q : α → Prop} {f' : β → List D} {Q' : β → Prop} (h : OpensD P t f Q) (g : α → β) (hf : ∀ a, f' (g a) = f a) (hq : ∀ a, Q a → Q' (g a)) : OpensD P t f' Q' :=
 fun enc w spare held fuel cs x hx => by
  obtain ⟨a, h1, h2⟩ := h enc w spare held fuel cs x hx
  exact ⟨g a, by rw [hf]; exact h1, hq _ h2⟩
theorem mapM_at {α β : Type} {f : α → Option β} {l : List α} {r : List β} (h : l.mapM f = some r) : r.length = l.length ∧ ∀ (i : Nat) x, l[i]? = some x → f x = r[i]? := ⟨mapM_some_length h, mapM_some_get h⟩
theorem cells_at {w : World} {a : Addr} {n : Nat} {cs : List Value} (h : w.cells? 0 a n = some cs) : cs.length = n ∧ ∀ j c, cs[j]? = some c → w.cell? (a.add j) = some c := by
 unfold World.cells? at h
 rw [if_pos (Nat.zero_le _)] at h
 obtain ⟨h1, h2⟩ := mapM_at h
 simp at h1
 refine ⟨h1, fun j c hj => ?_⟩
 have hlt : j < n := by rw [← h1]; exact (List.getElem?_eq_some_iff.1 hj).1
 rw [h2 j j (by simp [hlt]), hj]
/-! structs: field by field -/
def OpensSD {α : Type} (P : Program) (fs : List Field) (o e : Nat) (f : α → List D) (Q : α → Prop) : Prop :=
 ∀ {H : Type} (enc : TypeId × Value → H) (w : World) (spare : Nat → Bool) (held : Bool) (fuel : Nat) (cs : List Value) (xs : List (DataW H × List MemPlace)), cs.length = e →
  xs.length = fs.length → (∀ (i : Nat) (g : Field), fs[i]? = some g → DataW.trod enc P w 0 spare held fuel g.type ((cs.drop g.offset).take (P.cellsOf g.type)) = xs[i]?) → ∃ a, RepC w (f a) (cs.drop o) ∧ Q a
/-! a parameter: one value -/
def OpensVD {α : Type} (P : Program) (t : TypeId) (f : α → D) (Q : α → Prop) : Prop :=
 ∀ {H : Type} (enc : TypeId × Value → H) (w : World) (spare : Nat → Bool) (held : Bool) (base : Nat) (v : Value) (d : DataW H) (ps : List MemPlace), Value.okWide P w .any base t v →
  DataW.Trod enc P w 0 spare held t v d ps → ∃ a, Rep noCtx w (f a) v ∧ Q a
def cellKind : Option TypeDesc → Bool
 | some .bool | some (.int _) | some .string | some (.slice _) => true
 | _ => false
/-! the parameters of a law -/
def OpensLD {α : Type} (P : Program) (ts : List TypeId) (f : α → List D) (Q : α → Prop) : Prop :=
 ∀ {H : Type} (enc : TypeId × Value → H) (w : World) (spare : Nat → Bool) (held : Bool) (base : Nat) (vs : List Value) (ds : List (DataW H)) (ps : List MemPlace), (∀ (j : Nat) t v, ts[j]? = some t → vs[j]? = some v → Value.okWide P w .any base t v) →
  DataW.TrodAll enc P w 0 spare held ts vs ds ps → ∃ a, RepL noCtx w (f a) vs ∧ Q a
/-! the same, folded -/
structure Opens {α : Type} (P : Program) (t : TypeId) (f : α → List D) (Q : α → Prop) : Prop where
 run : OpensD P t f Q
structure OpensS {α : Type} (P : Program) (fs : List Field) (o e : Nat) (f : α → List D) (Q : α → Prop) : Prop where
 run : OpensSD P fs o e f Q
structure OpensV {α : Type} (P : Program) (t : TypeId) (f : α → D) (Q : α → Prop) : Prop where
 run : OpensVD P t f Q
structure OpensL {α : Type} (P : Program) (ts : List TypeId) (f : α → List D) (Q : α → Prop) : Prop where
 run : OpensLD P ts f Q
theorem Opens.iso {α β : Type} {t : TypeId} {f : α → List D} {Q : α → Prop} {f' : β → List D} {Q' : β → Prop} (h : Opens P t f Q) (g : α → β) (hf : ∀ a, f' (g a) = f a) (hq : ∀ a, Q a → Q' (g a)) : Opens P t f' Q' :=
 ⟨OpensD.iso (@Opens.run _ _ _ _ _ h) g hf hq⟩
theorem trodAll_len {H : Type} {enc : TypeId × Value → H} {w : World} {base : Nat} {sp : Nat → Bool} {held : Bool} : ∀ {ts : List TypeId} {vs : List Value} {ds : List (DataW H)} {ps : List MemPlace}, DataW.TrodAll enc P w base sp held ts vs ds ps → ds.length = ts.length
 | [], [], [], _, _ => rfl
 | [], _ :: _, _, _, h => h.elim
 | [], [], _ :: _, _, h => h.elim
 | _ :: _, [], _, _, h => h.elim
 | _ :: _, _ :: _, [], _, h => h.elim
 | _ :: _, _ :: _, _ :: _, _, h => by
  obtain ⟨_, _, _, h2, _⟩ := h
  simp [trodAll_len h2]
theorem trodAll_spare {H : Type} {enc : TypeId × Value → H} (hl : laidOutB P = true) {W W' : World} (hb : Below W.heap.size W W') {sp : Nat → Bool} : ∀ {ts : List TypeId} {vs : List Value} {ds : List (DataW H)} {ps : List MemPlace},
  (ts.all fun t => P.readableRec t && decide (t < P.types.size)) = true → DataW.TrodAll enc P W 0 (fun _ => true) true ts vs ds ps → (∀ x ∈ ps, x.block < W.heap.size) → (∀ x ∈ ps, sp x.block = true) → DataW.TrodAll enc P W' 0 sp true ts vs ds ps
 | [], [], [], _, _, h, _, _ => h
 | [], _ :: _, _, _, _, h, _, _ => h.elim
 | [], [], _ :: _, _, _, h, _, _ => h.elim
 | _ :: _, [], _, _, _, h, _, _ => h.elim
 | _ :: _, _ :: _, [], _, _, h, _, _ => h.elim
 | t :: ts, v :: vs, d :: ds, ps, hr, h, hlt, hsp => by
  obtain ⟨p, q, h1, h2, rfl⟩ := h
  simp only [List.all_cons, Bool.and_eq_true, decide_eq_true_eq] at hr
  exact ⟨p, q, WideElems.Trod_stays hl hr.1.1 hr.1.2 h1 (fun x hx => hb.same (hlt x (by simp [hx]))) (fun x hx => hsp x (by simp [hx])), trodAll_spare hl hb hr.2 h2 (fun x hx => hlt x (by simp [hx])) (fun x hx => hsp x (by simp [hx])), rfl⟩
theorem post_below {H : Type} {enc : TypeId × Value → H} {f : Func} {s : ChangeSpec} {apart fresh handsOn again : Bool} {W W' : World} {args : Array Value} {v : Value} {ds gs : List (DataW H)} {before pa pv : List MemPlace}
  (hW : DataW.Whole enc P f.params.toList s.vars apart W args.toList ds gs before)
  (hres : ∀ (b : Nat) (sp : Nat → Bool) (hd : Bool), DataW.TrodAll enc P W' b sp hd f.resultTypes.toList (v.resultList f.resultTypes.size) (s.fn H (ds ++ gs)).results [])
  (hargs : ∀ sp : Nat → Bool, (∀ p ∈ before, sp p.block = true) → DataW.TrodAll enc P W' 0 sp true f.params.toList args.toList (s.fn H (ds ++ gs)).args pa)
  (hvars : ∀ sp : Nat → Bool, (∀ p ∈ before, sp p.block = true) → DataW.TrodVars enc P W' sp s.vars (s.fn H (ds ++ gs)).vars pv)
  (hps : before = pa ++ pv) (hb : Below W.heap.size W W')
  (hok : ∀ (j : Nat) (t : TypeId) (r : Value), f.resultTypes[j]? = some t → (v.resultList f.resultTypes.size)[j]? = some r → Value.okWide P W' .any 0 t r) :
  s.post enc P f apart fresh handsOn again W args v W' := by
 have hlt : ∀ p ∈ before, p.block < W.heap.size := fun p hp => hW.lt p hp
 have hold : ∀ p ∈ before, (fun b => decide (b < W.heap.size)) p.block = true := fun p hp => by simpa using hlt p hp
 refine ⟨ds, gs, before, [], pa, pv, hW, hres _ _ _, hargs _ hold, hvars _ hold, World.keptBut_mono (fun p hp => ⟨hp, ?_⟩) (hb.frame (· ∈ before)), fun _ => ?_⟩
 ·rw [hps, List.mem_append] at hp
  exact Or.inr hp
 ·obtain ⟨_, _, _, _, _, hz, hn⟩ := hW
  refine ⟨hok, _, _, ([] ++ pa) ++ pv, ⟨[] ++ pa, pv, trodAll_append (hargs _ (fun _ _ => rfl)) (hres _ _ _), hvars _ (fun _ _ => rfl), rfl, ?_, ?_⟩, ?_⟩
  ·intro b off hp
   have hin : MemPlace.cell b off ∈ before := by rw [hps]; simpa using hp
   rw [hb.frozen (hlt _ hin)]
   exact hz b off hin
  ·intro ha
   have := hn ha
   rw [hps] at this
   simpa using this
  ·intro p hp _
   rw [hps]
   simpa using hp
end Go.Eng
set_option linter.unusedSectionVars false
namespace Go.Eng
variable {P : Program} [HasGlob P] {n : Nat} {S : St} {Q : Exit → St → Prop}
def lensC : D → List Nat
 | .sl _ es => [es.length]
 | _ => []
def lensD : D → List Nat
 | .sl _ es => [es.length]
 | .agg cs | .rd cs => cs.flatMap lensC
 | _ => []
theorem lensC_ok {C : Ctx} {w : World} {d : D} {u : Value} (h : Rep C w d u) : ∀ m ∈ lensC d, m ≤ maxLen := by
 intro m hm
 cases h with
 | slE k a cap hc => simp [lensC] at hm; omega
 | sl k es b o cap us hl hc _ _ _ => simp [lensC] at hm; omega
 | _ => simp [lensC] at hm
theorem lensD_ok {C : Ctx} {w : World} {d : D} {u : Value} (h : Rep C w d u) : ∀ m ∈ lensD d, m ≤ maxLen := by
 intro m hm
 cases h with
 | slE k a cap hc => simp [lensD] at hm; omega
 | sl k es b o cap us hl hc _ _ _ => simp [lensD] at hm; omega
 | agg cs us hn hh =>
  simp only [lensD, List.mem_flatMap] at hm
  obtain ⟨c, hc, hm⟩ := hm
  obtain ⟨j, hj, rfl⟩ := List.getElem_of_mem hc
  exact lensC_ok (hh j _ us[j] (List.getElem?_eq_getElem hj) (Array.getElem?_eq_getElem (by omega))) m hm
 | rd cs b o us hc' hh =>
  simp only [lensD, List.mem_flatMap] at hm
  obtain ⟨c, hc, hm⟩ := hm
  obtain ⟨j, hj, rfl⟩ := List.getElem_of_mem hc
  exact lensC_ok (hh j _ (List.getElem?_eq_getElem hj)) m hm
 | _ => simp [lensD] at hm
theorem awp_len {c : Code} {d : D} (t : Nat) (hl : look S.slots t = some d) (h : (∀ m ∈ lensD d, m ≤ 9223372036854775807) → AWp P n c S Q) : AWp P n c S Q := by
 intro w0 B C0 C a w E I
 obtain ⟨u, _, hr⟩ := I.slots t d hl
 exact h (fun m hm => by have := lensD_ok hr m hm; unfold maxLen at this; omega) E I
/-! what reads as one value reads as another -/
def Weak (d d' : D) : Prop := ∀ (C : Ctx) (w : World) (u : Value), Rep C w d u → Rep C w d' u
theorem Weak.refl (d : D) : Weak d d := fun _ _ _ h => h
theorem Weak.nil (k : Nat) : Weak (.v (.slice none 0 0)) (.sl k []) := fun _ _ _ h => by cases h; exact .slE _ _ _ (Nat.zero_le _)
def WeakL : List D → List D → Prop
 | [], [] => True
 | d :: ds, d' :: ds' => Weak d d' ∧ WeakL ds ds'
 | _, _ => False
theorem WeakL.at : ∀ {ds ds' : List D}, WeakL ds ds' → ds'.length = ds.length ∧ ∀ (j : Nat) d', ds'[j]? = some d' → ∃ d, ds[j]? = some d ∧ Weak d d'
 | [], [], _ => ⟨rfl, fun j d' h => by simp at h⟩
 | [], _ :: _, h => h.elim
 | _ :: _, [], h => h.elim
 | d :: ds, d' :: ds', h => by
  obtain ⟨h1, h2⟩ := WeakL.at h.2
  refine ⟨by simp [h1], fun j x hx => ?_⟩
  cases j with
  | zero => simp at hx; subst hx; exact ⟨d, rfl, h.1⟩
  | succ j => exact h2 j x (by simpa using hx)
def WeakLL : List (List D) → List (List D) → Prop
 | [], [] => True
 | d :: ds, d' :: ds' => WeakL d d' ∧ WeakLL ds ds'
 | _, _ => False
theorem WeakLL.at : ∀ {ds ds' : List (List D)}, WeakLL ds ds' → ds'.length = ds.length ∧ ∀ (j : Nat) d', ds'[j]? = some d' → ∃ d, ds[j]? = some d ∧ WeakL d d'
 | [], [], _ => ⟨rfl, fun j d' h => by simp at h⟩
 | [], _ :: _, h => h.elim
 | _ :: _, [], h => h.elim
 | d :: ds, d' :: ds', h => by
  obtain ⟨h1, h2⟩ := WeakLL.at h.2
  refine ⟨by simp [h1], fun j x hx => ?_⟩
  cases j with
  | zero => simp at hx; subst hx; exact ⟨d, rfl, h.1⟩
  | succ j => exact h2 j x (by simpa using hx)
theorem Weak.agg {cs cs' : List D} (h : WeakL cs cs') : Weak (.agg cs) (.agg cs') := fun C w u hr => by
 obtain ⟨h1, h2⟩ := h.at
 cases hr with
 | agg _ us hn hh =>
  refine .agg _ us (by omega) fun j c u hc hu => ?_
  obtain ⟨c0, hc0, hw⟩ := h2 j c hc
  exact hw _ _ _ (hh j c0 u hc0 hu)
theorem Weak.tup {cs cs' : List D} (h : WeakL cs cs') : Weak (.tup cs) (.tup cs') := fun C w u hr => by
 obtain ⟨h1, h2⟩ := h.at
 cases hr with
 | tup _ us hn hh =>
  refine .tup _ us (by omega) fun j c u hc hu => ?_
  obtain ⟨c0, hc0, hw⟩ := h2 j c hc
  exact hw _ _ _ (hh j c0 u hc0 hu)
theorem Weak.sl {k : Nat} {es es' : List (List D)} (h : WeakLL es es') : Weak (.sl k es) (.sl k es') := fun C w u hr => by
 obtain ⟨h1, h2⟩ := h.at
 cases hr with
 | slE _ a cap hm =>
  have : es' = [] := List.length_eq_zero_iff.1 (by simpa using h1)
  subst this
  exact .slE _ _ _ hm
 | sl _ _ b o cap us hl hm hk hc hh =>
  rw [← h1]
  refine .sl k es' b o cap us (by omega) hm (fun e he => ?_) (fun i j e c hi hj => ?_) (fun i j e c hi hj => ?_)
  ·obtain ⟨i, hi, rfl⟩ := List.getElem_of_mem he
   obtain ⟨e0, he0, hw⟩ := h2 i _ (List.getElem?_eq_getElem hi)
   rw [hw.at.1]; exact hk e0 (List.mem_of_getElem? he0)
  ·obtain ⟨e0, he0, hw⟩ := h2 i e hi
   obtain ⟨c0, hc0, _⟩ := hw.at.2 j c hj
   exact hc i j e0 c0 he0 hc0
  ·obtain ⟨e0, he0, hw⟩ := h2 i e hi
   obtain ⟨c0, hc0, hw2⟩ := hw.at.2 j c hj
   exact hw2 _ _ _ (hh i j e0 c0 he0 hc0)
end Go.Eng
set_option linter.unusedSectionVars false
namespace Go.Eng
variable {P : Program} [HasGlob P] {n : Nat} {S : St} {Q : Exit → St → Prop}
section
variable {w0 : World} {B : Nat → Nat → Prop} {C0 : Ctx} {C : Ctx} {a : Act} {w : World}
end
/-! families: row i of the family b lies at the site fs b i -/
def fs (b i : Nat) : Nat := 1000000 + (i * 64 + b % 64)
theorem fs_inj {b i j : Nat} : (fs b i = fs b j) = (i = j) := by unfold fs; rw [eq_iff_iff]; omega
theorem fs_ne {b b' i j : Nat} (h : b % 64 ≠ b' % 64) : (fs b i = fs b' j) = False := eq_false (by unfold fs; omega)
theorem fs_lt {b i s : Nat} (h : s < 1000000) : (fs b i = s) = False := eq_false (by unfold fs; omega)
theorem fs_lt' {b i s : Nat} (h : s < 1000000) : (s = fs b i) = False := eq_false (by unfold fs; omega)
theorem fs_nlt (b i : Nat) : (fs b i < 900000) = False := eq_false (by unfold fs; omega)
def fam {α : Type} (b e k : Nat) (f : α → List (List D)) : Nat → List (Nat × α) → List (Nat × (Nat × Blk))
 | _, [] => []
 | i, r :: rs => (fs b i, (r.1, .row e k (f r.2))) :: fam b e k f (i + 1) rs
def famO {α : Type} (b : Nat) : Nat → List (Nat × α) → List (List D)
 | _, [] => []
 | i, r :: rs => [.own (fs b i) r.1] :: famO b (i + 1) rs
def famP {α : Type} (e k : Nat) (f : α → List (List D)) (rs : List (Nat × α)) : List (Nat × Blk) := rs.map fun r => (r.1, .row e k (f r.2))
def famS (b : Nat) : Nat → Nat → List Nat
 | _, 0 => []
 | i, m + 1 => fs b i :: famS b (i + 1) m
section
variable {α : Type} {b e k : Nat} {f : α → List (List D)}
theorem famO_len : ∀ (rs : List (Nat × α)) (i : Nat), (famO b i rs).length = rs.length
 | [], i => rfl
 | r :: rs, i => by simp [famO, famO_len rs (i + 1)]
theorem famO_get' : ∀ (rs : List (Nat × α)) (i j : Nat), (famO b i rs)[j]? = rs[j]?.map fun r => [.own (fs b (i + j)) r.1]
 | [], i, j => by simp [famO]
 | r :: rs, i, 0 => by simp [famO]
 | r :: rs, i, j + 1 => by
  have := famO_get' rs (i + 1) j
  simp only [famO, List.getElem?_cons_succ, this]
  rw [show i + 1 + j = i + (j + 1) by omega]
theorem famO_get (rs : List (Nat × α)) (j : Nat) : (famO b 0 rs)[j]? = rs[j]?.map fun r => [.own (fs b j) r.1] := by
 rw [famO_get', Nat.zero_add]
theorem look_fam' : ∀ (rs : List (Nat × α)) (i j : Nat), look (fam b e k f i rs) (fs b (i + j)) = rs[j]?.map fun r => (r.1, .row e k (f r.2))
 | [], i, j => by simp [fam, look]
 | r :: rs, i, 0 => by simp [fam, look]
 | r :: rs, i, j + 1 => by
  have := look_fam' rs (i + 1) j
  simp only [fam, look]
  rw [if_neg (by rw [fs_inj]; omega), show i + (j + 1) = i + 1 + j by omega, this]
  simp
theorem look_fam (rs : List (Nat × α)) (j : Nat) : look (fam b e k f 0 rs) (fs b j) = rs[j]?.map fun r => (r.1, .row e k (f r.2)) := by
 have := look_fam' (b := b) (e := e) (k := k) (f := f) rs 0 j
 rwa [Nat.zero_add] at this
theorem look_fam0 (rs : List (Nat × α)) : look (fam b e k f 0 rs) (fs b 0) = rs[0]?.map fun r => (r.1, .row e k (f r.2)) := by
 exact look_fam rs 0
theorem look_fam_lt {s : Nat} : ∀ (rs : List (Nat × α)) (i : Nat), s < 1000000 → look (fam b e k f i rs) s = none
 | [], i, h => rfl
 | r :: rs, i, h => by
  simp only [fam, look]
  rw [if_neg (by rw [fs_lt h]; exact id), look_fam_lt rs (i + 1) h]
theorem erase_fam {s : Nat} : ∀ (rs : List (Nat × α)) (i : Nat), s < 1000000 → eraseK (fam b e k f i rs) s = fam b e k f i rs
 | [], i, h => rfl
 | r :: rs, i, h => by
  simp only [fam, eraseK]
  rw [if_neg (by rw [fs_lt h]; exact id), erase_fam rs (i + 1) h]
def FamIn (l : List (Nat × (Nat × Blk))) (b e k : Nat) (f : α → List (List D)) (i : Nat) (rs : List (Nat × α)) : Prop := ∀ (j : Nat) r, rs[j]? = some r → look l (fs b (i + j)) = some (r.1, .row e k (f r.2))
theorem covL_fam {l : List (Nat × (Nat × Blk))} : ∀ (rs : List (Nat × α)) (i : Nat), covL l (fam b e k f i rs) = FamIn l b e k f i rs
 | [], i => by simp [fam, covL, FamIn]
 | r :: rs, i => by
  have ih := covL_fam (l := l) rs (i + 1)
  simp only [fam, covL, ih, FamIn, eq_iff_iff]
  constructor
  ·rintro ⟨h1, h2⟩ j r' hj
   match j, hj with
   | 0, hj => simp at hj; subst hj; simpa using h1
   | j + 1, hj => have := h2 j r' (by simpa using hj); rwa [show i + 1 + j = i + (j + 1) by omega] at this
  ·intro h
   refine ⟨by simpa using h 0 r rfl, fun j r' hj => ?_⟩
   have := h (j + 1) r' (by simpa using hj)
   rwa [show i + (j + 1) = i + 1 + j by omega] at this
theorem FamIn.refl (rs : List (Nat × α)) (i : Nat) : FamIn (fam b e k f i rs) b e k f i rs := fun j r hj => by rw [look_fam', hj]; rfl
theorem FamIn.lt {l : List (Nat × (Nat × Blk))} {rs : List (Nat × α)} {i s : Nat} {x : Nat × Blk} (h : FamIn l b e k f i rs) (hs : s < 1000000) : FamIn ((s, x) :: l) b e k f i rs := fun j r hj => by
 simp only [look]
 rw [if_neg (by rw [fs_lt' hs]; exact id)]
 exact h j r hj
theorem FamIn.set {l : List (Nat × (Nat × Blk))} {rs : List (Nat × α)} {m g : Nat} {x : α} {es : List (List D)} (h : FamIn l b e k f 0 rs) (he : es = f x) : FamIn ((fs b m, (g, .row e k es)) :: l) b e k f 0 (rs.set m (g, x)) := fun j r hj => by
 subst he
 rw [List.getElem?_set] at hj
 simp only [look, Nat.zero_add]
 by_cases hm : m = j
 ·subst hm
  rw [if_pos rfl] at hj
  split at hj
  ·simp only [Option.some.injEq] at hj; subst hj; simp
  ·cases hj
 ·rw [if_neg hm] at hj
  rw [if_neg (by rw [fs_inj]; exact hm)]
  have := h j r hj
  rwa [Nat.zero_add] at this
theorem FamIn.same {l : List (Nat × (Nat × Blk))} {rs : List (Nat × α)} {m g : Nat} {x : α} {es : List (List D)} (h : FamIn l b e k f 0 rs) (hm : rs[m]? = some (g, x)) (he : es = f x) : FamIn ((fs b m, (g, .row e k es)) :: l) b e k f 0 rs := by
 have := FamIn.set (m := m) (g := g) h he
 obtain ⟨h1, h2⟩ := List.getElem?_eq_some_iff.1 hm
 rwa [← h2, List.set_getElem_self] at this
theorem FamIn.snoc {l : List (Nat × (Nat × Blk))} {rs : List (Nat × α)} {m g : Nat} {x : α} {es : List (List D)} (h : FamIn l b e k f 0 rs) (hm : m = rs.length) (he : es = f x) : FamIn ((fs b m, (g, .row e k es)) :: l) b e k f 0 (rs ++ [(g, x)]) := fun j r hj => by
 subst he hm
 rw [List.getElem?_append] at hj
 simp only [look, Nat.zero_add]
 split at hj
 ·rw [if_neg (by rw [fs_inj]; omega)]
  have := h j r hj
  rwa [Nat.zero_add] at this
 ·rename_i hl
  have hj0 : j = rs.length := by
   have := (List.getElem?_eq_some_iff.1 hj).1
   simp at this; omega
  subst hj0
  simp at hj
  subst hj
  simp
theorem putPs_fam {S : St} : ∀ (rs : List (Nat × α)) (i m : Nat), rs.length = m → putPs S (famS b i m) (famP e k f rs) = ⟨S.slots, fam b e k f i rs ++ S.heap⟩
 | [], i, m, hm => by subst hm; rfl
 | r :: rs, i, m, hm => by
  subst hm
  have := putPs_fam (S := S) rs (i + 1) _ rfl
  simp only [famP, List.length_cons, famS, List.map_cons, putPs] at this ⊢
  rw [this]
  rfl
end
theorem erase_fam0 {α : Type} {b e k s : Nat} {f : α → List (List D)} (rs : List (Nat × α)) (h : s < 1000000) : eraseK (fam b e k f 0 rs) s = fam b e k f 0 rs := erase_fam rs 0 h
theorem look_fam_lt0 {α : Type} {b e k s : Nat} {f : α → List (List D)} (rs : List (Nat × α)) (h : s < 1000000) : look (fam b e k f 0 rs) s = none := look_fam_lt rs 0 h
theorem famIn_refl {α : Type} {b e k i : Nat} {f : α → List (List D)} (rs : List (Nat × α)) : FamIn (fam b e k f i rs) b e k f i rs = True := eq_true (FamIn.refl rs i)
theorem famIn_lt {α : Type} {b e k i s : Nat} {x : Nat × Blk} {f : α → List (List D)} {l : List (Nat × (Nat × Blk))} (rs : List (Nat × α)) (hs : s < 1000000) : FamIn ((s, x) :: l) b e k f i rs = FamIn l b e k f i rs := by
 rw [eq_iff_iff]
 refine ⟨fun h j r hj => ?_, fun h => h.lt hs⟩
 have := h j r hj
 simp only [look] at this
 rwa [if_neg (by rw [fs_lt' hs]; exact id)] at this
attribute [go_sem] famIn_refl famIn_lt putPs_fam fs_inj fs_ne fs_lt fs_lt' fs_nlt erase_fam0 look_fam_lt0 famO_get famO_len look_fam look_fam0 covL_fam Nat.zero_add
attribute [irreducible] fs
end Go.Eng
set_option linter.unusedSectionVars false
namespace Go.Eng
variable {P : Program} [HasGlob P]
def BldStep (w w' : World) (T e b : Nat) (v : Value) (l' : List UInt8) : Prop :=
 ∃ p' v', w'.heap[b]? = some (.cells #[p', v'] T (0, 0)) ∧ (p' = .pointer none ∨ p' = .pointer (some ⟨b, 0, none⟩)) ∧ w'.ownsRowF 0 e 1 v' l'.length (Lib.byteCells l') ∧
  (v'.ownBlock = v.ownBlock ∨ ∀ k, v'.ownBlock = some k → w.heap.size ≤ k) ∧ v'.ownBlock ≠ some b ∧
  w'.os = w.os ∧ w'.tape = w.tape ∧ w'.output = w.output ∧ w.heap.size ≤ w'.heap.size ∧ ∀ k, k < w.heap.size → k ≠ b → v.ownBlock ≠ some k → w'.heap[k]? = w.heap[k]?
theorem blk_ownF {w : World} {base : Nat} {e : TypeId} {size : Nat} {v : Value} {n : Nat} {xs : List Value} (h : w.ownsRowF base e size v n xs) : blk v = v.ownBlock ∧ ∀ k, v.ownBlock = some k → k < w.heap.size := by
 rcases h.2 with ⟨rfl, _⟩ | ⟨g, cap, cur, fz, rfl, _, hg, _⟩
 ·exact ⟨rfl, fun k hk => by cases hk⟩
 ·refine ⟨rfl, fun k hk => ?_⟩
  simp only [Value.ownBlock, Option.some.injEq] at hk
  subst hk
  rcases Nat.lt_or_ge g w.heap.size with h' | h'
  ·exact h'
  ·simp [Array.getElem?_eq_none h'] at hg
theorem acall_bld {f : FuncId} {T e nb gb nr gr : Nat} {l l' : List UInt8} {xs : List Value} {r : D} {x : Value} (hf : FnOk P f) (h1 : 900000 ≤ nb) (h2 : 900000 ≤ nr) (hd : nb ≠ nr)
  (hx : ∀ C w, Rep C w r x)
  (h : ∀ (b : Nat) (p v : Value) (w : World), HasGlob.ok P w → w.heap[b]? = some (.cells #[p, v] T (0, 0)) → (p = .pointer none ∨ p = .pointer (some ⟨b, 0, none⟩)) → w.ownsRowF 0 e 1 v l.length (Lib.byteCells l) → v.ownBlock ≠ some b →
   Calls P f (.pointer (some ⟨b, 0, none⟩) :: xs).toArray w fun en w' => en = .returned x ∧ BldStep w w' T e b v l') :
  ACall P f (.ptr nb gb 0 :: xs.map .v) [(nb, (gb, .bld T nr gr)), (nr, (gr, .brow e l))] [nb, nr] fun ps r' => ∃ gr', ps = [(gb, .bld T nr gr'), (gr', .brow e l')] ∧ r' = r := by
 refine ⟨hf, ?_, fun C w us hc hg hr he => ?_⟩
 ·intro p hp
  simp only [List.mem_cons, List.mem_nil_iff, or_false] at hp
  rcases hp with rfl | rfl
  ·exact ⟨h1, rfl, by simp⟩
  ·exact ⟨h2, rfl, by simp⟩
 ·have hnb := he nb gb (.bld T nr gr) (by simp [look])
  have hnr := he nr gr (.brow e l) (by simp [look, hd])
  obtain ⟨b, p, v, b1, b2, b3, b4, b5⟩ := hnb
  obtain ⟨u, r1, r2, r3⟩ := hnr
  rw [b5] at r1
  simp only [Option.some.injEq] at r1
  subst r1
  obtain ⟨k1, k2⟩ := blk_ownF r3
  have hne : v.ownBlock ≠ some b := fun q => hd (hc.apart nb gb _ nr gr v b b1 b2 b5 r2 rfl (k1.trans q)).1
  have hus : us = .pointer (some ⟨b, 0, none⟩) :: xs := by
   refine List.ext_getElem (by simpa using hr.1) fun j h1 h2 => ?_
   cases j with
   | zero =>
    have := hr.2 0 (.ptr nb gb 0) us[0] rfl (List.getElem?_eq_getElem h1)
    show us[0] = _
    generalize us[0] = u0 at this ⊢
    cases this with
    | ptr _ _ _ b' hv =>
     rw [b1] at hv
     simp only [Option.some.injEq, Value.pointer.injEq, Addr.mk.injEq, and_true] at hv
     simp [hv]
   | succ j =>
    have h2' : j < xs.length := by simpa using h2
    have := hr.2 (j + 1) (.v xs[j]) us[j + 1] (by simp [h2']) (List.getElem?_eq_getElem h1)
    simpa using this.v_inv
  subst hus
  refine (h b p v w hg.1 b3 b4 r3 hne).mono fun en w' ⟨he', hs⟩ => ?_
  obtain ⟨p', v', s1, s2, s3, s4, s5, s6, s7, s8, s9, s10⟩ := hs
  obtain ⟨N, hN⟩ := hc.fresh nr
  obtain ⟨m1, m2⟩ := blk_ownF s3
  have hbl : b < w.heap.size := hc.bound nb gb _ b b1 b2 rfl
  have hown : ∀ k, v'.ownBlock = some k → k < w.heap.size → v.ownBlock = some k := fun k hk hlt => by
   rcases s4 with q | q
   ·rw [← q]; exact hk
   ·have := q k hk; omega
  let C' : Ctx := ⟨fun s g => if s = nr ∧ g = N then some v' else C.val s g, fun s g => if s = nr ∧ g = N then true else if s = nr ∧ g = gr then false else C.live s g⟩
  have hval : ∀ s g y, C.val s g = some y → C'.val s g = some y := fun s g y hy => by
   show (if s = nr ∧ g = N then some v' else C.val s g) = some y
   rw [if_neg]
   ·exact hy
   ·rintro ⟨rfl, rfl⟩
    rw [hN _ (Nat.le_refl _)] at hy
    cases hy
  have hgN : gr ≠ N := fun q => by subst q; rw [hN _ (Nat.le_refl _)] at b5; cases b5
  have cases' : ∀ s g u, C'.val s g = some u → C'.live s g = true → (s = nr ∧ g = N ∧ u = v') ∨ (¬ (s = nr ∧ g = gr) ∧ C.val s g = some u ∧ C.live s g = true) := fun s g u q1 q2 => by
   change (if s = nr ∧ g = N then some v' else C.val s g) = some u at q1
   change (if s = nr ∧ g = N then true else if s = nr ∧ g = gr then false else C.live s g) = true at q2
   by_cases q : s = nr ∧ g = N
   ·rw [if_pos q] at q1
    exact .inl ⟨q.1, q.2, by simpa using q1.symm⟩
   ·rw [if_neg q] at q1 q2
    by_cases q' : s = nr ∧ g = gr
    ·rw [if_pos q'] at q2; cases q2
    ·rw [if_neg q'] at q2
     exact .inr ⟨q', q1, q2⟩
  have hvN : C'.val nr N = some v' := by show (if nr = nr ∧ N = N then some v' else C.val nr N) = some v'; simp
  have hlN : C'.live nr N = true := by show (if nr = nr ∧ N = N then true else _) = true; simp
  have hlo : ∀ s g, ¬ (s = nr ∧ g = N) → ¬ (s = nr ∧ g = gr) → C'.live s g = C.live s g := fun s g q1 q2 => by
   show (if s = nr ∧ g = N then true else if s = nr ∧ g = gr then false else C.live s g) = C.live s g
   rw [if_neg q1, if_neg q2]
  have hext : Ext C w C' w' := by
   refine ⟨hval, fun k hk ⟨s, g, u, q1, q2, q3⟩ => ?_, fun k hk hno => ?_, s9⟩
   ·rcases cases' s g u q1 q2 with ⟨_, _, e3⟩ | ⟨_, q4, q5⟩
    ·rw [e3, m1] at q3
     exact ⟨nr, gr, v, b5, r2, k1.trans (hown k q3 hk)⟩
    ·exact ⟨s, g, u, q4, q5, q3⟩
   ·exact s10 k hk (fun q => hno ⟨nb, gb, _, b1, b2, by subst q; rfl⟩) (fun q => hno ⟨nr, gr, v, b5, r2, k1.trans q⟩)
  have hblive : C'.live nb gb = true := by rw [hlo nb gb (fun q => hd q.1) (fun q => hd q.1)]; exact b2
  have newNot : ∀ s g u k, ¬ (s = nr ∧ g = gr) → C.val s g = some u → C.live s g = true → blk u = some k → v'.ownBlock ≠ some k := fun s g u k q1 q2 q3 q4 q5 => by
   have hk := hc.bound s g u k q2 q3 q4
   have := hown k q5 hk
   exact q1 (hc.apart s g u nr gr v k q2 q3 b5 r2 q4 (k1.trans this))
  refine ⟨x, r, [(gb, .bld T nr N), (N, .brow e l')], C', he', ⟨N, rfl, rfl⟩, hx _ _, ⟨?_, ?_, ?_⟩, hext, ⟨rfl, ?_⟩, ?_, ?_, ?_, ?_, ⟨s6, s7, s8, s9, ?_⟩⟩
  ·intro s g u s' g' u' k q1 q2 q3 q4 q5 q6
   rcases cases' s g u q1 q2 with ⟨rfl, rfl, rfl⟩ | ⟨p1, p2, p3⟩ <;> rcases cases' s' g' u' q3 q4 with ⟨rfl, rfl, rfl⟩ | ⟨t1, t2, t3⟩
   ·exact ⟨rfl, rfl⟩
   ·rw [m1] at q5; exact absurd q5 (newNot s' g' u' k t1 t2 t3 q6)
   ·rw [m1] at q6; exact absurd q6 (newNot s g u k p1 p2 p3 q5)
   ·exact hc.apart s g u s' g' u' k p2 p3 t2 t3 q5 q6
  ·intro s g u k q1 q2 q3
   rcases cases' s g u q1 q2 with ⟨rfl, rfl, rfl⟩ | ⟨p1, p2, p3⟩
   ·exact m2 k (m1 ▸ q3)
   ·exact Nat.lt_of_lt_of_le (hc.bound s g u k p2 p3 q3) s9
  ·intro s
   obtain ⟨M, hM⟩ := hc.fresh s
   refine ⟨max M (N + 1), fun g hg' => ?_⟩
   show (if s = nr ∧ g = N then some v' else C.val s g) = none
   rw [if_neg (by omega)]
   exact hM g (by omega)
  ·intro j s p0 hj hp
   match j, hj, hp with
   | 0, hj, hp =>
    simp only [List.getElem?_cons_zero, Option.some.injEq] at hj hp
    subst hj hp
    exact ⟨⟨b, p', v', hval _ _ _ b1, hblive, s1, s2, hvN⟩, rfl⟩
   | 1, hj, hp =>
    simp only [List.getElem?_cons_succ, List.getElem?_cons_zero, Option.some.injEq] at hj hp
    subst hj hp
    exact ⟨⟨v', hvN, hlN, s3⟩, rfl⟩
   | j + 2, hj, hp => simp at hj
  ·intro j s p0 u k hj hp hv hk
   match j, hj, hp with
   | 0, hj, hp =>
    simp only [List.getElem?_cons_zero, Option.some.injEq] at hj hp
    subst hj hp
    have : u = .pointer (some ⟨b, 0, none⟩) := by have := hval _ _ _ b1; rw [this] at hv; exact (Option.some.inj hv).symm
    subst this
    exact .inr ⟨⟨nb, gb, _, ⟨.bld T nr gr, by simp [look]⟩, b1, hk⟩, h1⟩
   | 1, hj, hp =>
    simp only [List.getElem?_cons_succ, List.getElem?_cons_zero, Option.some.injEq] at hj hp
    subst hj hp
    have : u = v' := by rw [hvN] at hv; exact (Option.some.inj hv).symm
    subst this
    rw [m1] at hk
    rcases s4 with q | q
    ·exact .inr ⟨⟨nr, gr, v, ⟨.brow e l, by simp [look, hd]⟩, b5, k1.trans (q ▸ hk)⟩, h2⟩
    ·exact .inl (q k hk)
   | j + 2, hj, hp => simp at hj
  ·intro j s p0 y hj hp hy
   match j, hj, hp with
   | 0, hj, hp =>
    simp only [List.getElem?_cons_zero, Option.some.injEq] at hj hp
    subst hj hp
    exact ⟨.bld T nr gr, by simp [look]⟩
   | 1, hj, hp =>
    simp only [List.getElem?_cons_succ, List.getElem?_cons_zero, Option.some.injEq] at hj hp
    subst hj hp
    rw [hN _ (Nat.le_refl _)] at hy
    cases hy
   | j + 2, hj, hp => simp at hj
  ·intro s g y hy hnl
   refine hlo s g (fun q => ?_) (fun q => ?_)
   ·rw [q.1, q.2, hN _ (Nat.le_refl _)] at hy; cases hy
   ·rw [q.1, q.2] at hnl
    exact hnl ⟨.brow e l, by simp [look, hd]⟩
  ·intro s g y hy hl
   by_cases q : s = nr ∧ g = N
   ·rw [q.1, q.2, hN _ (Nat.le_refl _)] at hy; cases hy
   ·by_cases q' : s = nr ∧ g = gr
    ·rw [q'.1, q'.2]; exact r2
    ·rw [← hlo s g q q']; exact hl
  ·intro k hk hno
   exact s10 k hk (fun q => hno ⟨nb, gb, _, ⟨.bld T nr gr, by simp [look]⟩, b1, by subst q; rfl⟩) (fun q => hno ⟨nr, gr, v, ⟨.brow e l, by simp [look, hd]⟩, b5, k1.trans q⟩)
end Go.Eng
set_option linter.unusedSectionVars false
namespace Go.Eng
open Go.RowKit
variable {P : Program} [HasGlob P]
theorem pcall_below {f : FuncId} {args : List D} {R : D → Prop} (hf : FnOk P f)
  (h : ∀ (C : Ctx) (w : World) (us : List Value), CtxOk C w → HasGlob.ok P w → RepL C w args us → Calls P f us.toArray w fun e w' => ∃ u r, e = .returned u ∧ R r ∧ Rep C w' r u ∧ Below w.heap.size w w') : PCall P f args R := by
 refine ⟨hf, fun C w vs hc hg hr => ?_⟩
 exact (h C w vs hc hg.1 hr).mono fun e w' ⟨u, r, he, h1, h2, hb⟩ => ⟨u, r, C, he, h1, h2, ⟨hc.apart, fun s g u b h1 h2 h3 => Nat.lt_of_lt_of_le (hc.bound s g u b h1 h2 h3) hb.size, hc.fresh⟩,
  ⟨fun _ _ _ h => h, fun _ _ h => h, fun b hlt _ => hb.block b hlt, hb.size⟩, fun _ _ _ _ => rfl, ⟨hb.os, hb.tape, hb.output, hb.size, fun b hlt _ => hb.block b hlt⟩⟩
theorem repL_v {C : Ctx} {w : World} {us vs : List Value} (h : RepL C w (us.map .v) vs) : vs = us := by
 refine List.ext_getElem (by simpa using h.1) fun j h1 h2 => ?_
 have := h.2 j (.v us[j]) vs[j] (by simp [h2]) (List.getElem?_eq_getElem h1)
 exact this.v_inv
theorem rep_tup2 {C : Ctx} {w : World} {a b : D} {x y : Value} (h1 : Rep C w a x) (h2 : Rep C w b y) : Rep C w (.tup [a, b]) (.tuple #[x, y]) := by
 refine .tup _ _ rfl fun j c u hc hu => ?_
 match j, hc, hu with
 | 0, hc, hu => simp at hc hu; subst hc hu; exact h1
 | 1, hc, hu => simp at hc hu; subst hc hu; exact h2
 | j + 2, hc, hu => simp at hc
end Go.Eng
set_option linter.unusedSectionVars false
namespace Go.Eng
open Go.RowKit
variable {P : Program} [HasGlob P] {n : Nat} {S : St} {Q : Exit → St → Prop}
theorem Inv.nameBytes {w0 : World} {B : Nat → Nat → Prop} {C0 : Ctx} {C : Ctx} {a : Act} {w : World} (I : Inv w0 B C0 n S C a w) (s e : Nat) :
  ∃ g C', Inv w0 B C0 n (S.hput s g (.brow e [])) C' a w ∧ C'.val s g = some (.slice none 0 0) ∧ Ext C w C' w := by
 obtain ⟨g, C', I', hv, hx⟩ := I.nameNil s e 1
 refine ⟨g, C', ?_, hv, hx⟩
 refine ⟨I'.size, I'.defers, I'.slots, fun s' g' b' hb' => ?_, fun s' g' b' x u' hx hl' hv' hb' => ?_, I'.apart, I'.bound, I'.fresh, I'.frame, I'.old, I'.owned, I'.kept, fun s' g' y z hy hz => ?_, I'.dead0, I'.bound0⟩
 ·rw [look_hput] at hb'
  split at hb'
  ·rename_i es
   subst es
   simp only [Option.some.injEq, Prod.mk.injEq] at hb'
   obtain ⟨rfl, rfl⟩ := hb'
   have := I'.heap s g (.row e 1 []) (by rw [look_hput, if_pos rfl])
   obtain ⟨u, xs, h1, h2, _⟩ := this
   refine ⟨.slice none 0 0, hv, h2, ⟨by simp [Lib.byteCells], .inl ⟨rfl, rfl⟩⟩⟩
  ·rename_i hne
   exact I'.heap s' g' b' (by rw [look_hput, if_neg hne]; exact hb')
 ·rw [look_hput] at hx
  split at hx
  ·rename_i es
   subst es
   simp only [Option.some.injEq, Prod.mk.injEq] at hx
   obtain ⟨rfl, rfl⟩ := hx
   exact I'.mine s g b' (.row e 1 []) u' (by rw [look_hput, if_pos rfl]) hl' hv' hb'
  ·rename_i hne
   exact I'.mine s' g' b' x u' (by rw [look_hput, if_neg hne]; exact hx) hl' hv' hb'
 ·rw [look_hput] at hy
  split at hy
  ·rename_i es
   subst es
   simp only [Option.some.injEq, Prod.mk.injEq] at hy
   obtain ⟨rfl, rfl⟩ := hy
   exact I'.ents s g (.row e 1 []) z (by rw [look_hput, if_pos rfl]) hz
  ·rename_i hne
   exact I'.ents s' g' y z (by rw [look_hput, if_neg hne]; exact hy) hz
theorem awp_bld (T e nb nr : Nat) (hd : nb ≠ nr) {id t' ty : Nat} {pos : String} {after : Array Edge} {y : Code} (ht : t' < n) (hz : zeroOf P T = some [.pointer none, .slice none 0 0])
  (h : ∀ gb gr, AWp P n y ⟨(t', .ptr nb gb 0) :: S.slots, (nb, (gb, .bld T nr gr)) :: (nr, (gr, .brow e [])) :: S.heap⟩ Q) :
  AWp P n (.seq (.region id #[⟨some t', .alloc T, ty, pos, after, none⟩] false) y) S Q := by
 refine awp_seq ?_
 intro w0 B C0 C a w E I
 refine wp_region_lit (l := [⟨some t', .alloc T, ty, pos, after, none⟩]) ?_
 refine wpList_step fun K' hK' => ?_
 have hw : Region.wanted (⟨some t', .alloc T, ty, pos, after, none⟩ : Oper) (yielded [⟨some t', .alloc T, ty, pos, after, none⟩].toArray a.tmps) = true := by simp [Region.wanted]
 rw [if_pos hw]
 obtain ⟨i, z, hi, hz1, hzs, _⟩ := zeroOf_spec hz
 have hzc : z.cells = #[.pointer none, .slice none 0 0] := by
  apply Array.ext'
  rw [hzs]
 obtain ⟨gr, C1, I1, hv1, e1⟩ := I.nameBytes nr e
 obtain ⟨gb, C2, I2, hv2, e2⟩ := I1.new nb (.bld T nr gr) (.pointer (some ⟨w.heap.size, 0, none⟩)) rfl (Pushed.alloc w (.cells z.cells T)) (fun C' g e hv hl =>
  ⟨w.heap.size, .pointer none, .slice none 0 0, hv, hl, by rw [heap_alloc_new, hzc], .inl rfl, e.val _ _ _ hv1⟩)
 refine wp_val (u := .pointer (some ⟨w.heap.size, 0, none⟩)) (w' := w.alloc (.cells z.cells T)) ?_ ?_
 ·simp [execOp, Instr.alloc, zeroValue, typeInfo, hi, hz1, newVar, newRow]
 ·refine hK' _ _ ?_
  refine wpList_nil ?_
  exact ⟨_, C2, h gb gr, I2.put ht (.ptr nb gb 0 _ hv2)⟩
/-! a region whose operations are told one by one -/
end Go.Eng
namespace Go.Eng
set_option linter.unusedSectionVars false
variable {P : Program} [HasGlob P] {n : Nat} {S : St} {Q : Exit → St → Prop}
end Go.Eng
set_option linter.unusedSectionVars false
namespace Go.Eng
variable {P : Program} [HasGlob P] {n : Nat} {S : St} {Q : Exit → St → Prop}
end Go.Eng
set_option linter.unusedSectionVars false
namespace Go.Eng
open Go.RowKit Go.WideShapes Go.ChangeShapes
variable {P : Program} [HasGlob P]
/-! arguments read with what they weigh: each string and slice is no larger than the machine's addresses -/
theorem mem_weightsAll {H : Type} {P : Program} {e : TypeId} : ∀ {l : List (DataW H)} {d : DataW H} {m : Nat}, d ∈ l → m ∈ d.weights P e → m ∈ DataW.weightsAll P e l
 | [], d, m, h, _ => by simp at h
 | c :: l, d, m, h, hm => by
  simp only [DataW.weightsAll, List.mem_append]
  rcases List.mem_cons.1 h with rfl | h
  ·exact .inl hm
  ·exact .inr (mem_weightsAll h hm)
theorem mem_weightsEach_app {H : Type} {P : Program} : ∀ {ts us : List TypeId} {ds gs : List (DataW H)} {m : Nat}, ts.length = ds.length → m ∈ DataW.weightsEach P ts ds → m ∈ DataW.weightsEach P (ts ++ us) (ds ++ gs)
 | [], us, [], gs, m, _, h => by simp [DataW.weightsEach] at h
 | t :: ts, us, d :: ds, gs, m, hl, h => by
  simp only [List.cons_append, DataW.weightsEach, List.mem_append] at h ⊢
  rcases h with h | h
  ·exact .inl h
  ·exact .inr (mem_weightsEach_app (by simpa using hl) h)
def OpensZD {α : Type} (P : Program) (t : TypeId) (f : α → List D) (Q : α → Prop) : Prop :=
 ∀ {H : Type} (enc : TypeId × Value → H) (w : World) (spare : Nat → Bool) (held : Bool) (fuel : Nat) (cs : List Value) (x : DataW H × List MemPlace),
  DataW.trod enc P w 0 spare held fuel t cs = some x → (∀ m ∈ x.1.weights P t, m ≤ reachBytes) → ∃ a, RepC w (f a) cs ∧ Q a
theorem opensZD_int {t : TypeId} (ht : P.underlying t = some (.int .i64)) : OpensZD P t (fun n : Int => [.v (.int .i64 n)]) InR := fun enc w spare held fuel cs x h hw0 => by
 obtain ⟨n, rfl, rfl, hw⟩ := DataW.trod_int ht h
 exact ⟨n, RepC.one (.v _), bounds_i64 hw⟩
theorem opensZD_str {t : TypeId} (ht : P.underlying t = some .string) : OpensZD P t (fun s : ByteArray => [.v (.string s)]) (fun s => s.size ≤ reachBytes) := fun enc w spare held fuel cs x h hw0 => by
 obtain ⟨n, rfl, rfl, hw⟩ := DataW.trod_string ht h
 exact ⟨n, RepC.one (.v _), by show n.data.size ≤ reachBytes; rw [← Array.length_toList]; exact hw0 _ (by simp only [DataW.weights]; exact List.mem_singleton.2 rfl)⟩
theorem OpensZD.iso {α β : Type} {t : TypeId} {f : α → List D} {Q : α → Prop} {f' : β → List D} {Q' : β → Prop} (h : OpensZD P t f Q) (g : α → β) (hf : ∀ a, f' (g a) = f a) (hq : ∀ a, Q a → Q' (g a)) : OpensZD P t f' Q' :=
 fun enc w spare held fuel cs x hx hw0 => by
  obtain ⟨a, h1, h2⟩ := h enc w spare held fuel cs x hx hw0
  exact ⟨g a, by rw [hf]; exact h1, hq _ h2⟩
theorem opensZD_slice {α : Type} {t e : TypeId} {k : Nat} {f : α → List D} {Q : α → Prop} (ht : P.underlying t = some (.slice e)) (hk : P.cellsOf e = k) (hpos : 0 < k) (hf : ∀ a, (f a).length = k) (h : OpensZD P e f Q) :
  OpensZD P t (fun l : List α => [.sl k (l.map f)]) (fun l => l.length * P.bytesOf e ≤ reachBytes ∧ l.length ≤ maxLen ∧ ∀ a ∈ l, Q a) := fun enc w spare held fuel cs x hx hw0 => by
 rcases DataW.trod_slice ht hx with ⟨rfl, _⟩ | ⟨a, len, cap, elems, rest, n, _, rfl, hxe, _, hlc, hmax, hlen, hel, _, _⟩
 ·exact ⟨[], RepC.one (.slE _ _ _ (Nat.zero_le _)), by simp, by simp, by simp⟩
 rw [hk] at hel
 have hwt : ∀ m ∈ (elems.length + rest.length) * P.bytesOf e :: (DataW.weightsAll P e (elems.map (·.1)) ++ DataW.weightsAll P e (rest.map (·.1))), m ≤ reachBytes := by
  intro m hm
  refine hw0 m ?_
  rw [hxe]
  simp only [DataW.weights, ht, List.length_map]
  exact hm
 have hwe : ∀ y ∈ elems, ∀ m ∈ y.1.weights P e, m ≤ reachBytes := fun y hy m hm => hwt m (by
  simp only [List.mem_cons, List.mem_append]
  exact .inr (.inl (mem_weightsAll (List.mem_map.2 ⟨y, hy, rfl⟩) hm)))
 have hsz : len * P.bytesOf e ≤ reachBytes := by
  have h1 := hwt _ (List.mem_cons_self ..)
  have h2 : len * P.bytesOf e ≤ (elems.length + rest.length) * P.bytesOf e := Nat.mul_le_mul_right _ (by omega)
  omega
 have each : ∀ i, i < len → ∃ cs' a', w.cells? 0 (a.add (i * k)) k = some cs' ∧ RepC w (f a') cs' ∧ Q a' := fun i hi => by
  have h1 := hel i hi
  obtain ⟨y, hy⟩ : ∃ y, elems[i]? = some y := ⟨_, List.getElem?_eq_getElem (by omega)⟩
  rw [hy, Option.bind_eq_some_iff] at h1
  obtain ⟨cs', h2, h3⟩ := h1
  obtain ⟨a', h4, h5⟩ := h enc w spare held n cs' y h3 (hwe y (List.mem_of_getElem? hy))
  exact ⟨cs', a', h2, h4, h5⟩
 have build : ∀ m, m ≤ len → ∃ l : List α, l.length = m ∧ ∀ i, i < m → ∃ cs' a', l[i]? = some a' ∧ w.cells? 0 (a.add (i * k)) k = some cs' ∧ RepC w (f a') cs' ∧ Q a' := fun m => by
  induction m with
  | zero => exact fun _ => ⟨[], rfl, fun i hi => by omega⟩
  | succ m ih =>
   intro hm
   obtain ⟨l, h1, h2⟩ := ih (by omega)
   obtain ⟨cs', a', h3, h4, h5⟩ := each m (by omega)
   refine ⟨l ++ [a'], by simp [h1], fun i hi => ?_⟩
   by_cases hi' : i < m
   ·obtain ⟨c1, a1, g1, g2⟩ := h2 i hi'
    exact ⟨c1, a1, by rw [List.getElem?_append_left (by omega)]; exact g1, g2⟩
   ·have : i = m := by omega
    subst this
    exact ⟨cs', a', by rw [List.getElem?_append_right (by omega), h1]; simp, h3, h4, h5⟩
 obtain ⟨l, hl1, hl2⟩ := build len (Nat.le_refl _)
 refine ⟨l, RepC.one ?_, by rw [hl1]; exact hsz, by omega, fun x hx => ?_⟩
 ·cases hle : len with
  | zero =>
   have : l = [] := List.length_eq_zero_iff.1 (by omega)
   subst this
   exact .slE _ _ _ hmax
  | succ m =>
   have hsp : a.spot = none := by
    obtain ⟨cs', a', _, h3, _⟩ := hl2 0 (by omega)
    obtain ⟨h4, h5⟩ := cells_at h3
    have h6 := h5 0 (cs'[0]'(by omega)) (List.getElem?_eq_getElem _)
    simp only [Nat.zero_mul, Addr.add, if_true] at h6
    unfold World.cell? at h6
    split at h6
    ·split at h6
     ·cases h6
     ·rename_i hs; simpa using hs
    ·cases h6
   have ea : a = ⟨a.block, a.off, none⟩ := by cases a; simp at hsp; subst hsp; rfl
   have lm : (l.map f).length = len := by simp [hl1]
   rw [← hle, ← lm, ea]
   refine .sl k (l.map f) a.block a.off cap (fun i j => ((w.cells? 0 (a.add (i * k)) k).bind (·[j]?)).getD undef) (by omega) hmax (fun e he => ?_) (fun i j e' c hi hj => ?_) (fun i j e' c hi hj => ?_)
   ·obtain ⟨x, _, rfl⟩ := List.mem_map.1 he
    exact hf x
   all_goals
    have hil : i < len := by have := (List.getElem?_eq_some_iff.1 hi).1; omega
    obtain ⟨cs', a', g1, g2, g3, g4⟩ := hl2 i hil
    rw [List.getElem?_map, g1] at hi
    simp only [Option.map_some, Option.some.injEq] at hi
    subst hi
    obtain ⟨g5, g6⟩ := cells_at g2
    have hjl : j < cs'.length := by rw [g3.1]; exact (List.getElem?_eq_some_iff.1 hj).1
    have hcj : cs'[j]? = some cs'[j] := List.getElem?_eq_getElem hjl
    simp only [g2, Option.bind_some, hcj, Option.getD_some]
   ·refine ⟨noCtx_owns _, ?_⟩
    have := g6 j _ hcj
    rw [← this]
    congr 1
    rw [ea]
    simp only [Addr.add]
    by_cases h0 : i * k = 0 <;> by_cases h1 : j = 0 <;> simp [h0, h1, Nat.add_assoc]
   ·exact g3.2 j c _ hj hcj
 ·obtain ⟨i, hi, rfl⟩ := List.getElem_of_mem hx
  obtain ⟨cs', a', g1, _, _, g4⟩ := hl2 i (by omega)
  rw [List.getElem?_eq_getElem hi] at g1
  simp only [Option.some.injEq] at g1
  rw [g1]
  exact g4
/-! structs: field by field -/
def OpensZSD {α : Type} (P : Program) (fs : List Field) (o e : Nat) (f : α → List D) (Q : α → Prop) : Prop :=
 ∀ {H : Type} (enc : TypeId × Value → H) (w : World) (spare : Nat → Bool) (held : Bool) (fuel : Nat) (cs : List Value) (xs : List (DataW H × List MemPlace)), cs.length = e →
  xs.length = fs.length → (∀ (i : Nat) (g : Field), fs[i]? = some g → DataW.trod enc P w 0 spare held fuel g.type ((cs.drop g.offset).take (P.cellsOf g.type)) = xs[i]?) → (∀ m ∈ DataW.weightsEach P (fs.map (·.type)) (xs.map (·.1)), m ≤ reachBytes) → ∃ a, RepC w (f a) (cs.drop o) ∧ Q a
/-! a parameter: one value -/
def OpensZVD {α : Type} (P : Program) (t : TypeId) (f : α → D) (Q : α → Prop) : Prop :=
 ∀ {H : Type} (enc : TypeId × Value → H) (w : World) (spare : Nat → Bool) (held : Bool) (base : Nat) (v : Value) (d : DataW H) (ps : List MemPlace), Value.okWide P w .any base t v →
  DataW.Trod enc P w 0 spare held t v d ps → (∀ m ∈ d.weights P t, m ≤ reachBytes) → ∃ a, Rep noCtx w (f a) v ∧ Q a
theorem opensZVD_cell {α : Type} {t : TypeId} {f : α → D} {Q : α → Prop} (hk : cellKind (P.underlying t) = true) (h : OpensZD P t (fun a => [f a]) Q) : OpensZVD P t f Q := fun enc w spare held base v d ps hok ⟨fuel, hd⟩ hw0 => by
 have hc : v.cells.toList = [v] := by
  unfold Value.okWide at hok
  split at hok
  ·rename_i h1; rw [h1] at hk; cases hk
  ·rename_i h1; rw [h1] at hk; cases hk
  ·unfold Cell.okWide at hok
   split at hok
   all_goals first | (exfalso; rw [‹P.underlying t = _›] at hk; cases hk; done) | skip
   ·unfold Cell.ok at hok
    split at hok
    all_goals first | rfl | exact hok.elim | skip
 rw [hc] at hd
 obtain ⟨a, h1, h2⟩ := h enc w spare held fuel _ _ hd hw0
 exact ⟨a, h1.2 0 _ _ rfl rfl, h2⟩
/-! the parameters of a law -/
def OpensZLD {α : Type} (P : Program) (ts : List TypeId) (f : α → List D) (Q : α → Prop) : Prop :=
 ∀ {H : Type} (enc : TypeId × Value → H) (w : World) (spare : Nat → Bool) (held : Bool) (base : Nat) (vs : List Value) (ds : List (DataW H)) (ps : List MemPlace), (∀ (j : Nat) t v, ts[j]? = some t → vs[j]? = some v → Value.okWide P w .any base t v) →
  DataW.TrodAll enc P w 0 spare held ts vs ds ps → (∀ m ∈ DataW.weightsEach P ts ds, m ≤ reachBytes) → ∃ a, RepL noCtx w (f a) vs ∧ Q a
theorem opensZLD_nil : OpensZLD P [] (fun _ : Unit => []) (fun _ => True) := fun enc w spare held base vs ds ps _ h _ => by
 obtain ⟨rfl, rfl, _⟩ := trodAll_nil h
 exact ⟨(), ⟨rfl, fun j d u hd _ => by simp at hd⟩, trivial⟩
theorem opensZLD_cons {α β : Type} {t : TypeId} {ts : List TypeId} {f : α → D} {Q : α → Prop} {f' : β → List D} {Q' : β → Prop} (h : OpensZVD P t f Q) (h' : OpensZLD P ts f' Q') :
  OpensZLD P (t :: ts) (fun x : α × β => f x.1 :: f' x.2) (fun x => Q x.1 ∧ Q' x.2) := fun enc w spare held base vs ds ps hok hd hw0 => by
 obtain ⟨v, vs', d, ds', p, q, rfl, rfl, rfl, h1, h2⟩ := trodAll_cons hd
 obtain ⟨a, h3, h4⟩ := h enc w spare held base v d p (hok 0 t v rfl rfl) h1 (fun m hm => hw0 m (by simp only [DataW.weightsEach]; exact List.mem_append_left _ hm))
 obtain ⟨b, h5, h6⟩ := h' enc w spare held base vs' ds' q (fun j t' v' ht hv => hok (j + 1) t' v' (by simpa using ht) (by simpa using hv)) h2 (fun m hm => hw0 m (by simp only [DataW.weightsEach]; exact List.mem_append_right _ hm))
 refine ⟨(a, b), ⟨by simp [h5.1], fun j d' u hd' hu => ?_⟩, h4, h6⟩
 cases j with
 | zero => simp at hd' hu; subst hd'; subst hu; exact h3
 | succ j => exact h5.2 j d' u (by simpa using hd') (by simpa using hu)
/-! the same, folded -/
structure OpensZ {α : Type} (P : Program) (t : TypeId) (f : α → List D) (Q : α → Prop) : Prop where
 run : OpensZD P t f Q
structure OpensZS {α : Type} (P : Program) (fs : List Field) (o e : Nat) (f : α → List D) (Q : α → Prop) : Prop where
 run : OpensZSD P fs o e f Q
structure OpensZV {α : Type} (P : Program) (t : TypeId) (f : α → D) (Q : α → Prop) : Prop where
 run : OpensZVD P t f Q
structure OpensZL {α : Type} (P : Program) (ts : List TypeId) (f : α → List D) (Q : α → Prop) : Prop where
 run : OpensZLD P ts f Q
theorem opensZ_int {t : TypeId} (ht : P.underlying t = some (.int .i64)) : OpensZ P t (fun n : Int => [.v (.int .i64 n)]) InR := ⟨opensZD_int ht⟩
theorem opensZ_str {t : TypeId} (ht : P.underlying t = some .string) : OpensZ P t (fun s : ByteArray => [.v (.string s)]) (fun s => s.size ≤ reachBytes) := ⟨opensZD_str ht⟩
theorem OpensZ.iso {α β : Type} {t : TypeId} {f : α → List D} {Q : α → Prop} {f' : β → List D} {Q' : β → Prop} (h : OpensZ P t f Q) (g : α → β) (hf : ∀ a, f' (g a) = f a) (hq : ∀ a, Q a → Q' (g a)) : OpensZ P t f' Q' :=
 ⟨OpensZD.iso (@OpensZ.run _ _ _ _ _ h) g hf hq⟩
theorem opensZ_slice {α : Type} {t e : TypeId} (k : Nat) {f : α → List D} {Q : α → Prop} (ht : P.underlying t = some (.slice e)) (hk : P.cellsOf e = k) (hpos : 0 < k) (hf : ∀ a, (f a).length = k) (h : OpensZ P e f Q) :
  OpensZ P t (fun l : List α => [.sl k (l.map f)]) (fun l => l.length * P.bytesOf e ≤ reachBytes ∧ l.length ≤ maxLen ∧ ∀ a ∈ l, Q a) := ⟨opensZD_slice ht hk hpos hf (@OpensZ.run _ _ _ _ _ h)⟩
theorem opensZV_cell {α : Type} {t : TypeId} {f : α → D} {Q : α → Prop} (hk : cellKind (P.underlying t) = true) (h : OpensZ P t (fun a => [f a]) Q) : OpensZV P t f Q := ⟨opensZVD_cell hk (@OpensZ.run _ _ _ _ _ h)⟩
theorem opensZL_nil : OpensZL P [] (fun _ : Unit => []) (fun _ => True) := ⟨opensZLD_nil⟩
theorem opensZL_cons {α β : Type} {t : TypeId} {ts : List TypeId} {f : α → D} {Q : α → Prop} {f' : β → List D} {Q' : β → Prop} (h : OpensZV P t f Q) (h' : OpensZL P ts f' Q') :
  OpensZL P (t :: ts) (fun x : α × β => f x.1 :: f' x.2) (fun x => Q x.1 ∧ Q' x.2) := ⟨opensZLD_cons (@OpensZV.run _ _ _ _ _ h) (@OpensZL.run _ _ _ _ _ h')⟩
theorem law_contractZ {α : Type} {f : FuncId} {fn : Func} {s : ChangeSpec} {again : Bool} {ts : List TypeId} {tb : TypeId} {g : α → List D} {Q : α → Prop} (hl : laidOutB P = true) (hts : fn.params.toList = ts) (htb : fn.resultTypes = #[tb]) (hub : P.underlying tb = some .bool)
  (hr : (ts.all fun t => P.readableRec t && decide (t < P.types.size)) = true) (hvars : s.vars = []) (hs : ∀ (H : Type) (ds : List (DataW H)), ds.length = ts.length → s.fn H ds = { results := [.lit (.bool true)], args := ds })
  (ho : OpensZL P ts g Q) (hc : ∀ a, Q a → PCall P f (g a) fun r => r = .v (.bool true))
  {H : Type} (enc : TypeId × Value → H) (W : World) (base : Nat) (args : Array Value) (ds gs : List (DataW H)) (before : List MemPlace) (hg : GlobOk P noCtx W)
  (hval : ∀ (j : Nat) t v, fn.params[j]? = some t → args[j]? = some v → Value.okWide P W .any base t v)
  (hW : DataW.Whole enc P fn.params.toList s.vars false W args.toList ds gs before) (hz : sizedMet enc P fn (OpenSpec.ofChange s) false W args) :
  Calls P f args W fun e W' => ∃ v, e = .returned v ∧ s.post enc P fn false true false again W args v W' := by
 have hW' := hW
 obtain ⟨p, q, hA, hV, hpq, _⟩ := hW
 rw [hvars] at hV
 obtain ⟨rfl, rfl⟩ := trodVars_none hV
 rw [List.append_nil] at hpq
 subst hpq
 rw [hts] at hA
 obtain ⟨_, ds', gs', before', hWz, hwz⟩ := hz
 obtain ⟨pz, qz, hAz, _⟩ := hWz
 rw [hts] at hAz
 obtain ⟨a, h1, h2⟩ := ho.run enc W _ _ base _ _ _ (fun j t v ht hv => hval j t v (by rw [← hts] at ht; simpa using ht) (by simpa using hv)) hAz (fun m hm => by
  have hall := List.all_eq_true.1 hwz m (by
   rw [hts]
   exact mem_weightsEach_app (trodAll_len hAz).symm hm)
  simpa using hall)
 have hcall := (hc a h2).2 noCtx W args.toList (noCtx_ok W) hg h1
 rw [Array.toArray_toList] at hcall
 refine hcall.mono fun e W' hh => ?_
 obtain ⟨u, r, C', he, hr', hru, _, hext, _, hf⟩ := hh
 subst hr'
 have hu := hru.v_inv
 subst hu
 refine ⟨_, he, ?_⟩
 have hb : Below W.heap.size W W' := ⟨hf.os, hf.tape, hf.output, hf.size, fun k hk => hf.block k hk (fun h => by obtain ⟨_, _, _, h, _⟩ := h)⟩
 have hlen : ds.length = ts.length := trodAll_len hA
 have hfn : s.fn H (ds ++ []) = { results := [.lit (.bool true)], args := ds } := by rw [List.append_nil]; exact hs H ds hlen
 have hlt : ∀ x ∈ before, x.block < W.heap.size := fun x hx => hW'.lt x hx
 refine post_below (pa := before) (pv := []) hW' (fun b sp hd => ?_) (fun sp hsp => ?_) (fun sp _ => ?_) (by simp) hb ?_
 ·rw [hfn, htb]
  exact trodAll_cons_mk (p := []) (p' := []) (shut_bool hub true) trodAll_mk0
 ·rw [hfn, hts]
  exact trodAll_spare hl hb hr hA hlt hsp
 ·rw [hfn, hvars]; rfl
 ·exact ok_one htb rfl (okWide_bool_mk hub true)
end Go.Eng
namespace Go.Proofs.YtelhdhofnohkcaaGreatDoor
open Go.Eng Go.Fm
set_option maxRecDepth 20000
abbrev Bs := List UInt8
theorem gn_pow : Tryz.prog.globalNamed "internal/strconv.uint64pow10" = some 2 := by kernel_rfl
theorem gn_dbj : Tryz.prog.globalNamed "math/bits.deBruijn64tab" = some 7 := by kernel_rfl
def glOk (w : World) : Prop := Lib.TabIs Tryz.prog w "internal/strconv.uint64pow10" .u64 Lib.pow10Tab ∧ (∃ m, w.cell? ⟨3, 0, none⟩ = some (.int .i64 m)) ∧ Lib.TabIs Tryz.prog w "math/bits.deBruijn64tab" .u8 (Lib.deBruijn64tab.map Int.ofNat)
theorem glOk_stab (w w' : World) (h : ∀ b ∈ [2, 3, 7], w'.heap[b]? = w.heap[b]?) (hk : glOk w) : glOk w' := by
 refine ⟨?_, ?_, ?_⟩
 ·have hk1 := hk.1
  unfold Lib.TabIs World.var? at hk1 ⊢
  rw [gn_pow] at hk1 ⊢
  simp only [Option.bind_some] at hk1 ⊢
  rw [h 2 (by simp)]
  exact hk1
 ·have e : w'.cell? ⟨3, 0, none⟩ = w.cell? ⟨3, 0, none⟩ := by unfold World.cell?; rw [h 3 (by simp)]
  rw [e]; exact hk.2.1
 ·have hk1 := hk.2.2
  unfold Lib.TabIs World.var? at hk1 ⊢
  rw [gn_dbj] at hk1 ⊢
  simp only [Option.bind_some] at hk1 ⊢
  rw [h 7 (by simp)]
  exact hk1
instance trydGlob : HasGlob Tryz.prog := ⟨[2, 3, 7], glOk, glOk_stab⟩
@[go_sem] theorem po123 : ptrOf Tryz.prog 123 = true := by kernel_rfl
@[go_sem] abbrev cI (n : Int) : List D := [.v (.int .i64 n)]
@[go_sem] abbrev dI (n : Int) : D := .v (.int .i64 n)
@[go_sem] abbrev dB (n : Bool) : D := .v (.bool n)
@[go_sem] abbrev dU (c : UInt8) : D := .v (.int .u8 c.toNat)
@[go_sem] abbrev dIs (l : List Int) : D := .sl 1 (l.map cI)
@[go_sem] abbrev dS (l : Bs) : D := .v (.string ⟨l.toArray⟩)
@[go_sem] abbrev cS (s : Bs) : List D := [.v (.string ⟨s.toArray⟩)]
@[go_sem] abbrev dSs (l : List Bs) : D := .sl 1 (l.map cS)
@[go_sem] abbrev cF (f : Fld) : List D := [dS f.tx, dS f.nm, dB f.lf, dB f.ze, dB f.pl, dB f.bl, dB f.ha, dI f.wd, dI f.pr, dU f.lt]
@[go_sem] abbrev dF (f : Fld) : D := .agg [dS f.tx, dS f.nm, dB f.lf, dB f.ze, dB f.pl, dB f.bl, dB f.ha, dI f.wd, dI f.pr, dU f.lt]
@[go_sem] abbrev dFs (l : List Fld) : D := .sl 10 (l.map cF)
@[go_sem] abbrev cA (a : Ag) : List D := [dS a.nm, dB a.is, dI a.int, dS a.tx]
@[go_sem] abbrev dA (a : Ag) : D := .agg [dS a.nm, dB a.is, dI a.int, dS a.tx]
@[go_sem] abbrev dAs (l : List Ag) : D := .sl 4 (l.map cA)
end Go.Proofs.YtelhdhofnohkcaaGreatDoor
namespace Go.Proofs.YtelhdhofnohkcaaGreatDoor
open Go.Eng Go.WideShapes Go.Fm
set_option maxRecDepth 100000
theorem own : ownKnob Tryz.prog.godebug = none := by kernel_rfl
theorem laidOut : laidOutB Tryz.prog = true := by kernel_rfl
/-! the types of the laws' parameters -/
/-! what is listed of the package-level variables -/
theorem pow_data : (Rows.laid_internal_strconv_uint64pow10 : DataW Unit) = Lib.tabData .u64 Lib.pow10Tab := by kernel_rfl
theorem dbj_data : (Rows.laid_math_bits_deBruijn64tab : DataW Unit) = Lib.tabData .u8 (Lib.deBruijn64tab.map Int.ofNat) := by kernel_rfl
theorem globOk_of {W : World} {d : DataW Unit} {r : List (String × DataW Unit)} (hL : laidMet Tryz.prog (("math/bits.deBruijn32tab", d) :: ("math/bits.deBruijn64tab", (Rows.laid_math_bits_deBruijn64tab : DataW Unit)) :: ("internal/strconv.uint64pow10", (Rows.laid_internal_strconv_uint64pow10 : DataW Unit)) :: r) W) (hsh : W.ShapedOpen Tryz.prog) : GlobOk Tryz.prog noCtx W := by
 have hlt : ∀ b v, W.cell? ⟨b, 0, none⟩ = some v → b < W.heap.size := fun b v h => cell_lt h
 have hL1 := laidMet.tail hL
 have hL2 := laidMet.tail hL1
 have hp : Lib.TabIs Tryz.prog W "internal/strconv.uint64pow10" .u64 Lib.pow10Tab := by
  rw [pow_data] at hL2
  exact Lib.tabIs_of_head gn_pow (by kernel_rfl) (t := 200) (e := 105) (n := 20) (by kernel_rfl) (by kernel_rfl) (by kernel_rfl) (by kernel_rfl) hL2
 have hd : Lib.TabIs Tryz.prog W "math/bits.deBruijn64tab" .u8 (Lib.deBruijn64tab.map Int.ofNat) := by
  rw [dbj_data] at hL1
  exact Lib.tabIs_of_head gn_dbj (by kernel_rfl) (t := 262) (e := 5) (n := 64) (by kernel_rfl) (by kernel_rfl) (by kernel_rfl) (by kernel_rfl) hL1
 obtain ⟨m, hm⟩ := cell_of_shapedOpen_int (g := 3) (t := 3) (zero := #[.int .i64 0]) hsh (by decide +kernel) (by kernel_rfl) rfl (by kernel_rfl) (by kernel_rfl) Tryz.underlying3
 refine ⟨⟨hp, ⟨m, hm⟩, hd⟩, fun b hb => ⟨(fun ⟨s, g, u, h, _⟩ => by cases h), ?_⟩⟩
 have hb' : b = 2 ∨ b = 3 ∨ b = 7 := by
  have : b ∈ [2, 3, 7] := hb
  simpa using this
 rcases hb' with rfl | rfl | rfl
 ·exact hlt _ _ (hp.cell gn_pow 0 (by decide))
 ·exact hlt _ _ hm
 ·exact hlt _ _ (hd.cell gn_dbj 0 (by decide))
theorem wrap {H : Type} {enc : TypeId × Value → H} {a : Assume} {C : Checked} {os : Os} {f : FuncId} {fn : Func} {s : ChangeSpec} {conds : List PathCond} {apart fresh handsOn again : Bool} {X : World → Array Value → Prop}
  (hX : ∀ (w w' : World) (args : Array Value), w.heap = w'.heap → X w args → X w' args)
  (own : ownKnob C.prog.godebug = none) (started : os.Started) (noInit : C.prog.inits.idxOf? f = none) (hfn : C.prog.funcs[f]? = some fn)
  (witness : ∃ (w : World) (tape : Tape) (i : Input), w.os = os ∧ (w.forCall tape i).Shaped C.prog ∧ i.vars = [] ∧ Input.okWide C.prog (w.forCall tape i) .any w.heap.size f i ∧
   ((s.pre enc C.prog fn conds apart (w.forCall tape i).memory i.args ∧ X (w.forCall tape i).memory i.args) ∧ sizedMet enc C.prog fn (OpenSpec.ofChange s) apart (w.forCall tape i).memory i.args) ∧ a.holds C.prog (lone (Frame.enter C.prog f i.args .normal) [] (w.forCall tape i)))
  (contract : ∀ (W : World) (base : Nat) (args : Array Value) (ds gs : List (DataW H)) (before : List MemPlace),
   (∀ (j : Nat) t v, fn.params[j]? = some t → args[j]? = some v → Value.okWide C.prog W .any base t v) →
   DataW.Whole enc C.prog fn.params.toList s.vars apart W args.toList ds gs before → X W args → W.ShapedOpen C.prog →
   Calls C.prog f args W fun e W' => ∃ v, e = .returned v ∧ s.post enc C.prog fn apart fresh handsOn again W args v W') :
  ReturnsInHanded a C os f .any (fun w args => (s.pre enc C.prog fn conds apart w args ∧ X w args) ∧ sizedMet enc C.prog fn (OpenSpec.ofChange s) apart w args) (s.post enc C.prog fn apart fresh handsOn again) := by
 refine returnsInHanded_of_calls own started noInit witness ?_
 intro w tape i _ hsh _ hok hpre hholds
 obtain ⟨_, _, _, fn', hfn', _, _, _, _, hval⟩ := hok
 have e : fn' = fn := Option.some.inj (hfn'.symm.trans hfn)
 subst e
 obtain ⟨⟨⟨ds, gs, before, hw, hc⟩, hx⟩, hz⟩ := hpre
 have hw' := DataW.Whole.of_heap (w' := w.forCall tape i) (by rfl) hw
 refine (contract (w.forCall tape i) w.heap.size i.args ds gs before hval hw' (hX _ _ _ (by rfl) hx) hsh).mono fun e W' ⟨v, he, hp⟩ => ?_
 subst he
 exact ChangeSpec.post_blind hp
end Go.Proofs.YtelhdhofnohkcaaGreatDoor
/-! Facts of the whole program that every row's closing asks, each checked by itself: together they outgrow the kernel's memory. -/
namespace Go.Proofs.YtelhdhofnohkcaaGreatDoor
open Go.Eng Go.Fm
set_option maxRecDepth 100000
theorem joined_of {P : Program} {f : FuncId} {fn : Func} {s : ChangeSpec} {c : OpenClaim}
  (a1 : c.wf (OpenSpec.ofChange s) = true) (a2 : laidOutB P = true) (a3 : mapsRowed P = true)
  (b1 : (fn.params.all (P.readableRec ·) && namedTie P c.named s.vars && (c.stops == []) && (P.stops == []) && (c.knobs == []) && (P.stopKnobs == [])) = true)
  (c1 : (c.inPlace == P.inPlace f) = true) (c2 : (c.unfollowed == P.unfollowed f) = true) (c3 : (c.recurses == P.recurses f) = true) (c4 : (c.named == P.varsNamed f) = true)
  (d1 : ((c.maps == (fn.params.toList ++ s.plain.varTypes P).any (P.mapsRec ·)) && (c.ifaces == (fn.params.toList ++ s.plain.varTypes P).any (P.ifacesRec ·)) && (c.mapsOut == P.mapsAmong fn.resultTypes.toList) &&
 (c.loops == (fn.params.toList ++ s.plain.varTypes P).any (P.loopsFrom ·)) && (c.wideKeys == (fn.params.toList ++ s.plain.varTypes P ++ fn.resultTypes.toList).any (P.wideKeysFrom ·)) &&
 s.vars.all (P.varReadable ·) && fn.resultTypes.all (fun t => P.readableRec t && decide (t < P.types.size)) && (c.ifacesOut == fn.resultTypes.toList.any (P.ifacesRec ·)) && (c.loopsOut == fn.resultTypes.toList.any (P.loopsFrom ·))) = true)
  (e1 : (c.plainKeys == P.plainKeys) = true) (e2 : c.shortTexts.isNone = true) (e3 : P.stopsHeard = true) (e4 : P.mayEnter = true) (e5 : (c.lifted == P.liftsFinal) = true)
  (g1 : ((P.make == some c.make) && (c.kinds == (if c.domain.isEmpty then [] else fn.params.toList.map fun t => match P.underlying t with | some (.int k) => some k | _ => none)) && (c.pinned == c.pinnedBy) &&
 (c.veiled == (fn.params.toList ++ s.plain.varTypes P ++ fn.resultTypes.toList).any (P.veiledRec ·)) && c.veiledFits P fn.params.toList (fn.params.toList ++ s.plain.varTypes P ++ fn.resultTypes.toList)) = true) :
  joinedFacts P f fn s c = true := by
 unfold joinedFacts
 simp only [Bool.and_eq_true] at b1 d1 g1 ⊢
 simp only [and_assoc] at b1 d1 g1 ⊢
 obtain ⟨b1, b2, b3, b4, b5, b6⟩ := b1
 obtain ⟨d1, d2, d3, d4, d5, d6, d7, d8, d9⟩ := d1
 obtain ⟨g1, g2, g3, g4, g5⟩ := g1
 exact ⟨a1, a2, a3, b1, b2, b3, b4, b5, b6, c1, c2, c3, c4, d1, d2, d3, d4, d5, d6, d7, d8, d9, e1, e2, e3, e4, e5, g1, g2, g3, g4, g5⟩
theorem mapsRowed_is : mapsRowed Tryz.checked.prog = true := by kernel_rfl
theorem plainKeys_is : (Rows.formatEscapesRow.plainKeys == Tryz.checked.prog.plainKeys) = true := by kernel_rfl
theorem stopsHeard_is : Tryz.checked.prog.stopsHeard = true := by kernel_rfl
theorem mayEnter_is : Tryz.checked.prog.mayEnter = true := by kernel_rfl
theorem lifts_is : (Rows.formatEscapesRow.lifted == Tryz.checked.prog.liftsFinal) = true := by kernel_rfl
theorem main_is : Tryz.checked.prog.mainIs = some (true, "aa149a5e4f3612cb8a9c459a00c08e63291d9113686e5f3346190f5d57c03538".toList) := by kernel_rfl
theorem looks_is : true = Tryz.checked.prog.looks [] := by kernel_rfl
end Go.Proofs.YtelhdhofnohkcaaGreatDoor
namespace Go.Proofs.YtelhdhofnohkcaaGreatDoor
open Go.Eng Go.WideShapes Go.Fm
set_option maxRecDepth 100000
/-! the parameters with their sizes -/
theorem oz_int : OpensZ Tryz.prog 3 (fun n : Int => cI n) InR := opensZ_int Tryz.underlying3
theorem oz_str : OpensZ Tryz.prog 9 (fun s : List UInt8 => [dS s]) (fun s => s.length ≤ 140737488355328) :=
 (opensZ_str Tryz.underlying9).iso (fun s => s.data.toList) (fun s => by cases s; simp) (fun s h => by
  have h : s.data.size ≤ reachBytes := h
  rw [Array.length_toList]
  unfold reachBytes at h
  omega)
theorem ovz_int : OpensZV Tryz.prog 3 dI InR := opensZV_cell (by rw [Tryz.underlying3]; rfl) oz_int
theorem wrapZ {H : Type} {enc : TypeId × Value → H} {a : Assume} {C : Checked} {os : Os} {f : FuncId} {fn : Func} {s : ChangeSpec} {conds : List PathCond} {apart fresh handsOn again : Bool} {X : World → Array Value → Prop}
  (hX : ∀ (w w' : World) (args : Array Value), w.heap = w'.heap → X w args → X w' args)
  (own : ownKnob C.prog.godebug = none) (started : os.Started) (noInit : C.prog.inits.idxOf? f = none) (hfn : C.prog.funcs[f]? = some fn)
  (witness : ∃ (w : World) (tape : Tape) (i : Input), w.os = os ∧ (w.forCall tape i).Shaped C.prog ∧ i.vars = [] ∧ Input.okWide C.prog (w.forCall tape i) .any w.heap.size f i ∧
   ((s.pre enc C.prog fn conds apart (w.forCall tape i).memory i.args ∧ X (w.forCall tape i).memory i.args) ∧ sizedMet enc C.prog fn (OpenSpec.ofChange s) apart (w.forCall tape i).memory i.args) ∧ a.holds C.prog (lone (Frame.enter C.prog f i.args .normal) [] (w.forCall tape i)))
  (contract : ∀ (W : World) (base : Nat) (args : Array Value) (ds gs : List (DataW H)) (before : List MemPlace),
   (∀ (j : Nat) t v, fn.params[j]? = some t → args[j]? = some v → Value.okWide C.prog W .any base t v) →
   DataW.Whole enc C.prog fn.params.toList s.vars apart W args.toList ds gs before → sizedMet enc C.prog fn (OpenSpec.ofChange s) apart W args → X W args → W.ShapedOpen C.prog →
   Calls C.prog f args W fun e W' => ∃ v, e = .returned v ∧ s.post enc C.prog fn apart fresh handsOn again W args v W') :
  ReturnsInHanded a C os f .any (fun w args => (s.pre enc C.prog fn conds apart w args ∧ X w args) ∧ sizedMet enc C.prog fn (OpenSpec.ofChange s) apart w args) (s.post enc C.prog fn apart fresh handsOn again) := by
 refine returnsInHanded_of_calls own started noInit witness ?_
 intro w tape i _ hsh _ hok hpre hholds
 obtain ⟨_, _, _, fn', hfn', _, _, _, _, hval⟩ := hok
 have e : fn' = fn := Option.some.inj (hfn'.symm.trans hfn)
 subst e
 obtain ⟨⟨⟨ds, gs, before, hw, hc⟩, hx⟩, hp, dz, gz, bz, hwz, hlz⟩ := hpre
 have hw' := DataW.Whole.of_heap (w' := w.forCall tape i) (by rfl) hw
 have hwz' := DataW.Whole.of_heap (w' := w.forCall tape i) (by rfl) hwz
 refine (contract (w.forCall tape i) w.heap.size i.args ds gs before hval hw' ⟨hp, dz, gz, bz, hwz', hlz⟩ (hX _ _ _ (by rfl) hx) hsh).mono fun e W' ⟨v, he, hp⟩ => ?_
 subst he
 exact ChangeSpec.post_blind hp
end Go.Proofs.YtelhdhofnohkcaaGreatDoor
