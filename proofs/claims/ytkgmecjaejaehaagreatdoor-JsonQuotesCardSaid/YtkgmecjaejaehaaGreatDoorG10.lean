/- Part of a proof: see the last text. -/
import Derived.Test.YtkgmecjaejaehaaGreatDoorG09
import Derived.Test.YtkgmecjaejaehaaGreatDoorG05
import Derived.Test.YtkgmecjaejaehaaGreatDoorG08
import Derived.Lib.SplitLaws
import Derived.Lib.CountLaws
import Derived.Lib.IndexAny
set_option linter.unusedVariables false
set_option linter.unusedSimpArgs false
namespace Go.Proofs.YtkgmecjaejaehaaGreatDoor
set_option maxRecDepth 100000
set_option maxHeartbeats 3200000 in
theorem slow_any (b : Nat) (w : World) (h0 : w.cell? ⟨b, 0, none⟩ = some (.int .u32 0)) (h1 : w.cell? ⟨b, 1, none⟩ = some (.int .i32 0)) (f0 : w.frozen? ⟨b, 0, none⟩ = false) (f1 : w.frozen? ⟨b, 1, none⟩ = false)
  (R : World → Prop) (H : Calls Tryz.prog 103 #[.pointer (some ⟨b, 0, none⟩)] (w.setCell ⟨b, 1, none⟩ (.int .i32 1)) fun e w' => e = .returned (.tuple #[]) ∧ R w')
  (HR : ∀ w', R w' → w'.cell? ⟨b, 0, none⟩ = some (.int .u32 0) ∧ w'.cell? ⟨b, 1, none⟩ = some (.int .i32 1) ∧ w'.frozen? ⟨b, 0, none⟩ = false ∧ w'.frozen? ⟨b, 1, none⟩ = false) :
  Calls Tryz.prog 149 #[.pointer (some ⟨b, 0, none⟩), .func (.func 103) #[.pointer (some ⟨b, 0, none⟩)] #[]] w fun e w' => e = .returned (.tuple #[]) ∧
   ∃ w1, R w1 ∧ w' = (w1.drew.setCell ⟨b, 0, none⟩ (.int .u32 1)).setCell ⟨b, 1, none⟩ (.int .i32 0) := by
 have hl := run_call_load (P := Tryz.prog) Tryz.func183 (by kernel_rfl) (by kernel_rfl) (by kernel_rfl) .u32 (by kernel_rfl) (w := w.setCell ⟨b, 1, none⟩ (.int .i32 1)) (a := ⟨b, 0, none⟩) (x := 0) ((World.cell?_setCell_other _ ⟨b, 1, none⟩ ⟨b, 0, none⟩ _ (by simp)).trans h0)
 have hnot : ∀ (x : Bool) (w : World), (Op.unary .not (.bool x)).run Tryz.prog w = .ok (.bool (!x)) w := fun _ _ => rfl
 go_enter_defers Tryz.func149, Tryz.ntmps149
 go_wp2_with (go_at_call 184; refine (lock_free ⟨b, 1, none⟩ _ (by go_simp) (by go_simp)).mono ?_; rintro e w' ⟨rfl, rfl⟩)
 go_wp2_with (first | (go_at_call 103; refine H.mono ?_; rintro e w' ⟨rfl, hR⟩) | (go_at_call 148; go_in))
 obtain ⟨r0, r1, z0, z1⟩ := HR _ hR
 refine leaves_cons (f := 186) (args := #[.pointer (some ⟨b, 0, none⟩), .bool true]) (by simp) (by simp [go_sem]) ?_
 refine (store_deferred ⟨b, 0, none⟩ (.int .u32 0) .returning _ r0 z0).mono ?_
 rintro e u' w'' ⟨rfl, rfl, rfl⟩
 refine leaves_cons (f := 185) (args := #[.pointer (some ⟨b, 1, none⟩)]) (by simp [settle]) (by simp [go_sem]) ?_
 refine (unlock_deferred ⟨b, 1, none⟩ _ _ ?_ (by simp [z1])).mono ?_
 ·refine (World.cell?_setCell_other _ ⟨b, 0, none⟩ ⟨b, 1, none⟩ _ (by simp)).trans ?_
  rw [World.cell?_drew]
  exact r1
 rintro e u' w'' ⟨rfl, rfl, rfl⟩
 simp [Leaves, settle, results, Tryz.results149]
 exact ⟨_, hR, rfl⟩
set_option maxHeartbeats 3200000 in
theorem do_first (b : Nat) (w : World) (h0 : w.cell? ⟨b, 0, none⟩ = some (.int .u32 0)) (h1 : w.cell? ⟨b, 1, none⟩ = some (.int .i32 0)) (f0 : w.frozen? ⟨b, 0, none⟩ = false) (f1 : w.frozen? ⟨b, 1, none⟩ = false)
  (R : World → Prop) (H : Calls Tryz.prog 103 #[.pointer (some ⟨b, 0, none⟩)] (w.setCell ⟨b, 1, none⟩ (.int .i32 1)) fun e w' => e = .returned (.tuple #[]) ∧ R w')
  (HR : ∀ w', R w' → w'.cell? ⟨b, 0, none⟩ = some (.int .u32 0) ∧ w'.cell? ⟨b, 1, none⟩ = some (.int .i32 1) ∧ w'.frozen? ⟨b, 0, none⟩ = false ∧ w'.frozen? ⟨b, 1, none⟩ = false) :
  Calls Tryz.prog 102 #[.pointer (some ⟨b, 0, none⟩), .func (.func 103) #[.pointer (some ⟨b, 0, none⟩)] #[]] w fun e w' => e = .returned (.tuple #[]) ∧
   ∃ w1, R w1 ∧ w' = (w1.drew.setCell ⟨b, 0, none⟩ (.int .u32 1)).setCell ⟨b, 1, none⟩ (.int .i32 0) := by
 have hl := run_call_load (P := Tryz.prog) Tryz.func183 (by kernel_rfl) (by kernel_rfl) (by kernel_rfl) .u32 (by kernel_rfl) h0
 have hnot : ∀ (x : Bool) (w : World), (Op.unary .not (.bool x)).run Tryz.prog w = .ok (.bool (!x)) w := fun _ _ => rfl
 go_enter Tryz.func102, Tryz.ntmps102
 go_wp2_with (first | (go_at_call 149; refine (slow_any b _ h0 h1 f0 f1 R H HR).mono ?_; rintro e w' ⟨rfl, hR⟩) | (go_at_call 148; go_in))
 go_end0
 exact ⟨rfl, hR⟩
end Go.Proofs.YtkgmecjaejaehaaGreatDoor
namespace Go.Proofs.YtkgmecjaejaehaaGreatDoor
open Go.Eng Go.Js
set_option maxRecDepth 20000
abbrev bxR (d s : Int) (c2 : Value) (r o : D) : Blk := .box [.v (.int .u32 d), .v (.int .i32 s), .v c2, r, o]
set_option maxHeartbeats 3200000 in
theorem once_spec (g : Nat) (c2 : Value) (a b : UInt8) (va vb : Bs) (i j : Nat) (hab : abOk a b i j) : ACall Tryz.prog 102 [.ptr 900010 g 0, .mfn 103 (.ptr 900010 g 0)] [(900010, (g, bxR 0 0 c2 (.v .nilIface) (onD a b va vb)))] [900010] fun ps r =>
  ps = [(g, bxR 1 0 c2 (.ifc 235 (gRd i j va vb)) nS)] ∧ r = .tup [] := by
 have hB := bonce_spec g (.int .u32 0) (.int .i32 1) c2 a b va vb i j hab
 simp only [gRd] at hB ⊢
 generalize gC i j va vb = G at *
 have hes : ∀ p ∈ [((900010, (g, bxR 0 0 c2 (.v .nilIface) (onD a b va vb))) : Nat × (Nat × Blk))], 900000 ≤ p.1 ∧ notFroz p.2.2 = true ∧ p.1 ∈ [900010] := by simp [notFroz]
 refine ⟨⟨_, Tryz.func102, rfl, rfl⟩, hes, fun C w us hc hg hr hent => ?_⟩
 have E := Env.start hg hent fun p hp => (hes p hp).2.1
 have I := Inv.start hc hent fun p hp => (hes p hp).1
 
 obtain ⟨bk, hv, hus⟩ : ∃ bk, C.val 900010 g = some (.pointer (some ⟨bk, 0, none⟩)) ∧ us = [.pointer (some ⟨bk, 0, none⟩), .func (.func 103) #[.pointer (some ⟨bk, 0, none⟩)] #[]] := by
  obtain ⟨hl, hh⟩ := hr
  match us, hl with
  | [u1, u2], _ =>
   have r1 := hh 0 _ _ rfl rfl
   have r2 := hh 1 _ _ rfl rfl
   cases r1 with
   | ptr _ _ _ bk hb =>
    refine ⟨bk, hb, ?_⟩
    cases r2 with
    | mfn _ _ u0 h0 =>
     cases h0 with
     | ptr _ _ _ b' hb' =>
      rw [hb] at hb'
      simp only [Option.some.injEq, Value.pointer.injEq, Addr.mk.injEq, and_true] at hb'
      subst hb'
      rfl
 subst hus
 have hx0 : Eng.look (⟨[], [(900010, (g, bxR 0 0 c2 (.v .nilIface) (onD a b va vb)))]⟩ : St).heap 900010 = some (g, bxR 0 0 c2 (.v .nilIface) (onD a b va vb)) := rfl
 obtain ⟨a0, f0⟩ := I.boxCell (j := 0) hx0 rfl hv
 obtain ⟨a1, f1⟩ := I.boxCell (j := 1) hx0 rfl hv
 have I1 := I.cellSet (j := 1) (v := .int .i32 1) hx0 hv rfl
 have H := hB.2.2 C _ [.pointer (some ⟨bk, 0, none⟩)] I1.ctxOk (E.now I1) ⟨rfl, fun k d u hd hu => by
   match k, hd, hu with
   | 0, hd, hu => simp at hd hu; subst hd hu; exact .ptr _ _ _ _ hv
   | k + 1, hd, _ => simp at hd⟩
  (fun s g' x hx => by
   have : Eng.look (St.hput ⟨[], [(900010, (g, bxR 0 0 c2 (.v .nilIface) (onD a b va vb)))]⟩ 900010 g (.box ([.v (.int .u32 0), .v (.int .i32 0), .v c2, .v .nilIface, (onD a b va vb)].set 1 (.v (.int .i32 1))))).heap s = some (g', x) := by
    simp only [Eng.look] at hx
    split at hx
    ·rename_i e; subst e; simp at hx; obtain ⟨rfl, rfl⟩ := hx; rfl
    ·cases hx
   exact I1.heap s g' x this)
 refine (do_first bk w a0 a1 f0 f1 (fun w' => ∃ C' S', Inv w (LentB [(900010, (g, bxR 0 0 c2 (.v .nilIface) (onD a b va vb)))]) C 0 S' C' act0 w' ∧ C'.val 900010 g = some (.pointer (some ⟨bk, 0, none⟩)) ∧
   Eng.look S'.heap 900010 = some (g, bxR 0 1 c2 (.ifc 235 (.rd G)) nS)) (H.mono ?_) ?_).mono ?_
 ·rintro e w' ⟨u, r, ps, C', rfl, ⟨rfl, rfl⟩, hru, hok, ext, hp, hm, he, hl, hd, hfrm⟩
  have I2 := I1.afterL (ss := [900010]) (es := [(900010, (g, bxR 0 1 c2 (.v .nilIface) (onD a b va vb)))]) (fun s g' x hx => by
   simp only [Eng.look] at hx
   split at hx
   ·rename_i e; subst e; simp at hx; obtain ⟨rfl, rfl⟩ := hx; exact ⟨rfl, by decide, rfl, by simp⟩
   ·cases hx) ext hok hp hm he hl hd hfrm
  refine ⟨?_, C', _, I2, ext.val _ _ _ hv, rfl⟩
  cases hru with
  | tup _ vs hn _ =>
   have : vs = #[] := Array.eq_empty_of_size_eq_zero hn
   rw [this]
 ·rintro w' ⟨C', S', I', hv', q1⟩
  obtain ⟨b0, z0⟩ := I'.boxCell (j := 0) q1 rfl hv'
  obtain ⟨b1, z1⟩ := I'.boxCell (j := 1) q1 rfl hv'
  exact ⟨b0, b1, z0, z1⟩
 ·rintro e w' ⟨rfl, w1, ⟨C', S', I', hv', q1⟩, rfl⟩
  have I4 := (I'.drew).cellSet (j := 0) (v := .int .u32 1) q1 hv' rfl
  have I5 := I4.cellSet (s := 900010) (g := g) (j := 1) (v := .int .i32 0) (cs := [.v (.int .u32 1), .v (.int .i32 1), .v c2, .ifc 235 (.rd G), nS]) rfl hv' rfl
  refine ⟨.tuple #[], .tup [], [(g, bxR 1 0 c2 (.ifc 235 (.rd G)) nS)], C', rfl, ⟨rfl, rfl⟩, .tup _ _ rfl (fun k c u hj => by simp at hj), ?_⟩
  refine Inv.finish (ss := [900010]) hc hent (fun p hp => (hes p hp).2.1) I5 rfl (fun k s p h1 h2 => ?_)
  match k, h1, h2 with
  | 0, h1, h2 => simp at h1 h2; subst h1 h2; exact ⟨rfl, rfl⟩
  | k + 1, h1, _ => simp at h1
end Go.Proofs.YtkgmecjaejaehaaGreatDoor
namespace Go.Eng
set_option linter.unusedSectionVars false
variable {P : Program} [HasGlob P] [HasPan P]
section
variable {n : Nat} {S : St}
theorem ag_assert {ops : List Oper} {dst : Option Nat} {x : Operand} {xT t ty : TypeId} {pos : String} {after : Array Edge} {K : St → Prop} (t0 : TypeId) (hd : dstOk n dst)
  (hm : ∀ (v : Value) (w : World), (Instr.typeAssert (.iface t0 v) xT t true).run P w = .ok (.tuple #[.iface t0 v, .bool true]) w)
  (h : evK true S x fun d => ∃ d0, d = .ifc t0 d0 ∧ K (S.set dst (.tup [.ifc t0 d0, .v (.bool true)]))) : AG P n ops ⟨dst, .typeAssert x xT t true, ty, pos, after, none⟩ S K := by
 intro w0 B C0 C a w E I N Q hN _
 have hw : Region.wanted (⟨dst, .typeAssert x xT t true, ty, pos, after, none⟩ : Oper) (yielded ops.toArray a.tmps) = true := by simp [Region.wanted]
 rw [if_pos hw]
 obtain ⟨d, ⟨d0, rfl, hk⟩, hr⟩ := evK_ok I h
 have hr := hr rfl
 generalize hX : a.eval x = ux at hr
 cases hr with
 | ifc _ _ u hu =>
  refine wp_val (u := .tuple #[.iface t0 u, .bool true]) (w' := w) ?_ (hN _ _ ⟨_, C, hk, I.set (dstOk_spec hd) (.tup _ _ rfl fun j c v hc hv => ?_)⟩)
  ·simp [execOp, hX, hm]
  ·match j, hc, hv with
   | 0, hc, hv => simp at hc hv; subst hc hv; exact .ifc _ _ _ hu
   | 1, hc, hv => simp at hc hv; subst hc hv; exact .v _
   | j + 2, hc, _ => simp at hc
theorem ag_mkimeth {ops : List Oper} {dst : Option Nat} {name : String} {ty : TypeId} {x : Operand} {pos : String} {after : Array Edge} {K : St → Prop} (hd : dstOk n dst)
  (h : evK true S x fun d => ∃ t d0, d = .ifc t d0 ∧ ∀ u0, K (S.set dst (.v (.func (.method name) #[.iface t u0] #[])))) : AG P n ops ⟨dst, .makeFunc (.method name) #[x] #[], ty, pos, after, none⟩ S K := by
 intro w0 B C0 C a w E I N Q hN _
 by_cases hw : Region.wanted (⟨dst, .makeFunc (.method name) #[x] #[], ty, pos, after, none⟩ : Oper) (yielded ops.toArray a.tmps) = true
 ·rw [if_pos hw]
  obtain ⟨d, ⟨t, d0, rfl, hk⟩, hr⟩ := evK_ok I h
  have hr := hr rfl
  generalize hX : a.eval x = ux at hr
  cases hr with
  | ifc _ _ u hu =>
   refine wp_val (u := .func (.method name) #[.iface t u] #[]) (w' := w) ?_ (hN _ _ ⟨_, C, hk u, I.set (dstOk_spec hd) (.v _)⟩)
   simp [execOp, Instr.makeFunc, hX]
 ·exact absurd (by simp [Region.wanted]) hw
theorem ag_nilmeth {ops : List Oper} {dst : Option Nat} {name : String} {ty t : TypeId} {x : Operand} {pos : String} {after : Array Edge} {K : St → Prop} (hd : dstOk n dst)
  (hn : ∀ (v : Value) (w : World), (nilAhead (P.types.size + Made.depth) t v name).run P w = .ok (some false) w)
  (h : evK true S x fun d => ∃ u0, d = .v (.func (.method name) #[.iface t u0] #[]) ∧ K (S.set dst d)) : AG P n ops ⟨dst, .nilCheck x, ty, pos, after, none⟩ S K := by
 intro w0 B C0 C a w E I N Q hN _
 have hw : Region.wanted (⟨dst, .nilCheck x, ty, pos, after, none⟩ : Oper) (yielded ops.toArray a.tmps) = true := by simp [Region.wanted]
 rw [if_pos hw]
 obtain ⟨d, ⟨u0, rfl, hk⟩, hr⟩ := evK_ok I h
 have hv := (hr rfl).v_inv
 refine wp_val (u := .func (.method name) #[.iface t u0] #[]) (w' := w) ?_ (hN _ _ ⟨_, C, hk, I.set (dstOk_spec hd) (.v _)⟩)
 have hp : (program : Sem Program).run P w = .ok P w := run_program ..
 simp [execOp, hv, hp, hn]
end
theorem bytesR_app (a b : List UInt8) : bytesR (a ++ b) = bytesR a ++ bytesR b := by simp [bytesR]
theorem bytesR_len (a : List UInt8) : (bytesR a).length = a.length := by simp [bytesR]
end Go.Eng
namespace Go.Js
/-! what two keys of a byte behind '~' become; the tokens of a pointer -/
def repV (a b : UInt8) (va vb : List UInt8) : List UInt8 → List UInt8
 | [] => []
 | [c] => [c]
 | c :: d :: s =>
  if c = 126 then
   if d = a then va ++ repV a b va vb s else if d = b then vb ++ repV a b va vb s else c :: repV a b va vb (d :: s)
  else c :: repV a b va vb (d :: s)
def lookV (a b : UInt8) (va vb : List UInt8) : List UInt8 → Option (List UInt8)
 | c :: d :: _ => if c = 126 then if d = a then some va else if d = b then some vb else none else none
 | _ => none
theorem repV_some {a b : UInt8} {va vb s v : List UInt8} (h : lookV a b va vb s = some v) : repV a b va vb s = v ++ repV a b va vb (s.drop 2) := by
 match s, h with
 | c :: d :: s, h =>
  simp only [lookV] at h
  simp only [repV, List.drop_succ_cons, List.drop_zero]
  by_cases h1 : c = 126
  ·rw [if_pos h1] at h ⊢
   by_cases h2 : d = a
   ·rw [if_pos h2] at h ⊢
    cases h; rfl
   ·rw [if_neg h2] at h ⊢
    by_cases h3 : d = b
    ·rw [if_pos h3] at h ⊢
     cases h; rfl
    ·rw [if_neg h3] at h; cases h
  ·rw [if_neg h1] at h; cases h
theorem lookV_len {a b : UInt8} {va vb s v : List UInt8} (h : lookV a b va vb s = some v) : 2 ≤ s.length := by
 match s, h with
 | c :: d :: s, h => simp
theorem repV_none {a b : UInt8} {va vb s : List UInt8} {c : UInt8} (h : lookV a b va vb (c :: s) = none) : repV a b va vb (c :: s) = c :: repV a b va vb s := by
 match s, h with
 | [], _ => simp [repV]
 | d :: s, h =>
  simp only [lookV] at h
  simp only [repV]
  by_cases h1 : c = 126
  ·rw [if_pos h1] at h ⊢
   by_cases h2 : d = a
   ·rw [if_pos h2] at h; cases h
   ·rw [if_neg h2] at h ⊢
    by_cases h3 : d = b
    ·rw [if_pos h3] at h; cases h
    ·rw [if_neg h3]
  ·rw [if_neg h1]
theorem lookV_not {a b : UInt8} {va vb s : List UInt8} {c : UInt8} (h : c ≠ 126) : lookV a b va vb (c :: s) = none := by
 match s with
 | [] => rfl
 | d :: s => simp [lookV, h]
theorem repV_len (a b : UInt8) (va vb : List UInt8) (ha : va.length ≤ 2) (hb : vb.length ≤ 2) : ∀ (n : Nat) (s : List UInt8), s.length ≤ n → (repV a b va vb s).length ≤ s.length := by
 intro n
 induction n with
 | zero => intro s h0; obtain rfl := List.eq_nil_of_length_eq_zero (Nat.le_zero.1 h0); simp [repV]
 | succ n ih =>
  intro s h
  match s, h with
  | [], _ => simp [repV]
  | c :: s, h =>
   cases hl : lookV a b va vb (c :: s) with
   | none =>
    rw [repV_none hl]
    have := ih s (by simp at h; omega)
    simp; omega
   | some v =>
    rw [repV_some hl]
    have h2 := lookV_len hl
    have := ih ((c :: s).drop 2) (by simp at h ⊢; omega)
    have hv : v.length ≤ 2 := by
     match s, hl with
     | d :: s, hl =>
      simp only [lookV] at hl
      repeat' split at hl
      all_goals first | cases hl; assumption | cases hl
    simp at this h2 ⊢
    omega
theorem repV_swap (a b : UInt8) (va vb : List UInt8) (h : a ≠ b) : ∀ (n : Nat) (s : List UInt8), s.length ≤ n → repV a b va vb s = repV b a vb va s := by
 intro n
 induction n with
 | zero => intro s h0; obtain rfl := List.eq_nil_of_length_eq_zero (Nat.le_zero.1 h0); simp [repV]
 | succ n ih =>
  intro s hs
  match s, hs with
  | [], _ => simp [repV]
  | [c], _ => simp [repV]
  | c :: d :: s, hs =>
   have i1 := ih (d :: s) (by simp at hs ⊢; omega)
   have i2 := ih s (by simp at hs ⊢; omega)
   simp only [repV]
   rw [i1, i2]
   by_cases h1 : c = 126
   ·rw [if_pos h1, if_pos h1]
    by_cases h2 : d = a
    ·rw [if_pos h2, if_neg (by rw [h2]; exact h), if_pos h2]
    ·rw [if_neg h2]
     by_cases h3 : d = b
     ·rw [if_pos h3, if_pos h3]
     ·rw [if_neg h3, if_neg h3, if_neg h2]
   ·rw [if_neg h1, if_neg h1]
def okTok (s : List UInt8) : Bool := !(repV 48 49 [] [] s).contains 126
def tokT (s : List UInt8) : List UInt8 := repV 49 48 [47] [126] s
def cutH (b : UInt8) : List (List UInt8) → List (List UInt8)
 | [] => [[b]]
 | h :: t => (b :: h) :: t
def cutV : List UInt8 → List (List UInt8)
 | [] => [[]]
 | b :: l => if b = 47 then [] :: cutV l else cutH b (cutV l)
def toksV : List UInt8 → Option (List (List UInt8))
 | [] => some []
 | c :: s => if c ≠ 47 then none else if (cutV s).all okTok then some ((cutV s).map tokT) else none
def goV : JV → List (List UInt8) → Option JV
 | v, [] => some v
 | v, t :: l => if idxT v t < 0 then none else goV (v.items.getD (idxT v t).toNat default) l
def atV (v : JV) (p : List UInt8) : JV × Int :=
 if (vldV v 2000 1).1 = false then (.mk 0 [] [] [], 1) else
 match toksV p with
 | none => (.mk 0 [] [] [], 4)
 | some l => match goV v l with
  | none => (.mk 0 [] [] [], 3)
  | some x => (x, 0)
theorem cutH_ne (b : UInt8) (l : List (List UInt8)) : cutH b l ≠ [] := by cases l <;> simp [cutH]
theorem cutV_ne (l : List UInt8) : cutV l ≠ [] := by
 cases l with
 | nil => simp [cutV]
 | cons b l =>
  unfold cutV
  split
  ·simp
  ·exact cutH_ne _ _
theorem cutV_len : ∀ s : List UInt8, (cutV s).length ≤ s.length + 1
 | [] => by simp [cutV]
 | b :: l => by
  have := cutV_len l
  unfold cutV
  split
  ·simp; omega
  ·have hn := cutV_ne l
   match cutV l, hn, this with
   | h :: t, _, this => simp [cutH] at this ⊢; omega
theorem cutV_each : ∀ (s t : List UInt8), t ∈ cutV s → t.length ≤ s.length
 | [], t, h => by simp [cutV] at h; subst h; simp
 | b :: l, t, h => by
  unfold cutV at h
  split at h
  ·rcases List.mem_cons.1 h with rfl | h
   ·simp
   ·have := cutV_each l t h; simp; omega
  ·have hn := cutV_ne l
   have hr := cutV_each l
   match cutV l, hn, hr, h with
   | g :: r, _, hr, h =>
    simp only [cutH, List.mem_cons] at h
    rcases h with rfl | h
    ·have := hr g (by simp); simp; omega
    ·have := hr t (by simp [h]); simp; omega
open Go.Lib
theorem split_miss {s sep : List UInt8} (h : index s sep = -1) : split s sep = [s] := by
 unfold split; rw [count_miss h]; rfl
theorem split_hit {s sep : List UInt8} {i : Nat} (hs : sep ≠ []) (h : index s sep = i) : split s sep = s.take i :: split (s.drop (i + sep.length)) sep := by
 unfold split
 rw [count_hit hs h, Nat.add_comm 1]
 conv => lhs; unfold splitK
 rw [h, if_neg (by simp)]
 simp
theorem split_at {b : UInt8} {l sep : List UInt8} (hs : sep ≠ []) (h : sep.isPrefixOf (b :: l) = true) : split (b :: l) sep = [] :: split ((b :: l).drop sep.length) sep := by
 have e : index (b :: l) sep = (0 : Nat) := by unfold index; rw [if_pos h]; rfl
 rw [split_hit hs e]; simp
theorem split_step {b : UInt8} {l sep : List UInt8} (hs : sep ≠ []) (h : sep.isPrefixOf (b :: l) = false) : split (b :: l) sep = cutH b (split l sep) := by
 have e : index (b :: l) sep = if index l sep == -1 then -1 else index l sep + 1 := by
  conv => lhs; unfold index
  simp [h]
 by_cases h1 : index l sep = -1
 ·rw [split_miss h1, split_miss (by rw [e, h1]; rfl)]; rfl
 ·have hge := index_ge l sep
  obtain ⟨i, hi⟩ : ∃ i : Nat, index l sep = i := ⟨(index l sep).toNat, by omega⟩
  have e2 : index (b :: l) sep = ((i + 1 : Nat) : Int) := by rw [e, hi, if_neg (by simp)]; rfl
  rw [split_hit hs e2, split_hit hs hi]
  have : (i + 1 + sep.length) = (i + sep.length) + 1 := by omega
  rw [this]; rfl
theorem split_nil {sep : List UInt8} (hs : sep ≠ []) : split [] sep = [[]] := by
 apply split_miss
 unfold index
 cases sep with
 | nil => exact absurd rfl hs
 | cons => rfl
theorem split_cut : ∀ s, split s [47] = cutV s
 | [] => by rw [split_nil (by simp)]; rfl
 | b :: l => by
  unfold cutV
  by_cases h : b = 47
  ·rw [if_pos h, split_at (by simp) (by simp [h]), ← split_cut l]; rfl
  ·rw [if_neg h, split_step (by simp) (by rw [Bool.eq_false_iff]; intro q; simp at q; exact h q.symm), split_cut l]
end Go.Js
namespace Go.Proofs.YtkgmecjaejaehaaGreatDoor
open Go.Eng Go.Js
set_option maxRecDepth 20000
attribute [local irreducible] AG CallA CallT AWp PCall ACall XCall AgC
theorem aswrite_spec (gb g : Nat) (o s : Bs) (hl : o.length + s.length ≤ 140737488355328) : ACall Tryz.prog 287 [.ptr 900060 gb 0, dS s] [(900060, (gb, .box [.own 900061 g])), (900061, (g, .row 5 1 (bytesR o)))] [900060, 900061] fun ps r => ∃ g', ps = [(gb, .box [.own 900061 g']), (g', .row 5 1 (bytesR (o ++ s)))] ∧ r = .tup [dI s.length, .v .nilIface] := by
 refine acall_of Tryz.func287 rfl rfl Tryz.ntmps287 (rs := [.tmp 4, .tmp 5]) (tys := [3, 134]) rfl rfl (by simp) (by simp [notFroz]) ?_
 (refine awp_sr fun Y Yh => ?_; simp [go_sem]; ((repeat' (first|(refine ag_x ?_;simp [go_sem])|intro _|apply And.intro|(apply Yh;clear Yh Y)));all_goals first|apply Hold.mk|omega|with_reducible assumption|skip))
 (refine awp_seq ?_; refine awp_ags ?_; simp only [AGs])
 (refine ag_true rfl ?_; simp [go_sem])
 (refine ag_true rfl ?_; simp [go_sem])
 (refine ag_true rfl ?_; simp [go_sem])
 (refine ag_true rfl ?_; simp [go_sem])
 (refine ag_true rfl ?_; simp [go_sem])
 refine ag_appstr (t := 316) (u := 9) (e := 5) (s := 900061) (g := g) (es := bytesR o) (bs := s) (by decide) (by kernel_rfl) (by kernel_rfl) Tryz.underlying9 (by simp [go_sem]) (by simp [go_sem]) (by simp [go_sem]) (by rw [bytesR_len]; omega) fun g' => ?_
 rw [← bytesR_app]
 simp [go_sem]
 (refine ag_true rfl ?_; simp [go_sem])
 (refine ag_true rfl ?_; simp [go_sem])
 (refine awp_sr fun Y Yh => ?_; simp [go_sem]; ((repeat' (first|(refine ag_x ?_;simp [go_sem])|intro _|apply And.intro|(apply Yh;clear Yh Y)));all_goals first|apply Hold.mk|omega|with_reducible assumption|skip))
 (refine awp_ret ?_; simp [go_sem, retA])
theorem gsw_spec (gb g : Nat) (es : List (List D)) : ACall Tryz.prog 279 [.ifc 317 (.ptr 900060 gb 0)] [(900060, (gb, .box [.own 900061 g])), (900061, (g, .row 5 1 es))] [900060, 900061] fun ps r => ps = [(gb, .box [.own 900061 g]), (g, .row 5 1 es)] ∧ r = .ifc 317 (.ptr 900060 gb 0) := by
 refine acall_of Tryz.func279 rfl rfl Tryz.ntmps279 (rs := [.tmp 2]) (tys := [321]) rfl rfl (by simp) (by simp [notFroz]) ?_
 (refine awp_sr fun Y Yh => ?_; simp [go_sem]; ((repeat' (first|(refine ag_x ?_;simp [go_sem])|intro _|apply And.intro|(apply Yh;clear Yh Y)));all_goals first|apply Hold.mk|omega|with_reducible assumption|skip))
 (refine awp_seq ?_; refine awp_ags ?_; simp only [AGs])
 (refine ag_true rfl ?_; simp [go_sem])
 refine ag_assert 317 (by simp [dstOk]) (fun _ _ => by kernel_rfl) ?_
 simp [go_sem]
 (refine ag_true rfl ?_; simp [go_sem])
 (refine ag_true rfl ?_; simp [go_sem])
 (refine ag_true rfl ?_; simp [go_sem])
 (refine ag_true rfl ?_; simp [go_sem])
 (refine ag_true rfl ?_; simp [go_sem])
 refine awp_seq_k fun K1 hK1 => ?_
 (refine awp_sr fun Y Yh => ?_; simp [go_sem]; ((repeat' (first|(refine ag_x ?_;simp [go_sem])|intro _|apply And.intro|(apply Yh;clear Yh Y)));all_goals first|apply Hold.mk|omega|with_reducible assumption|skip))
 (refine awp_if fun T F hT hF => ?_; simp [go_sem]; refine hF ?_; clear hT hF T F)
 refine awp_skip ?_
 refine hK1 _ ?_; clear hK1
 (refine awp_sr fun Y Yh => ?_; simp [go_sem]; ((repeat' (first|(refine ag_x ?_;simp [go_sem])|intro _|apply And.intro|(apply Yh;clear Yh Y)));all_goals first|apply Hold.mk|omega|with_reducible assumption|skip))
 (refine awp_ret ?_; simp [go_sem, retA])
abbrev nT (v0 v1 : Bs) (p0 p1 : Int) : List D := [dS [], dI 0, dS [], nP, .sl 1 [[.rd (lfN v0 p0)], [.rd (lfN v1 p1)], [nP]]]
abbrev gT0 (v0 v1 : Bs) (p0 p1 : Int) : D := .sl 1 [[nP], [nP], [.rd (nT v0 v1 p0 p1)]]
abbrev gT (v0 v1 : Bs) (p0 p1 : Int) : List D := rC (gT0 v0 v1 p0 p1) (dI 3) finB
def lkR : Option Bs → D
 | some v => .tup [dS v, dI 2, dB true]
 | none => .tup [dS [], dI 0, dB false]
theorem fin_other {c : Nat} (h1 : c ≠ 48) (h2 : c ≠ 49) (h3 : c ≠ 126) : finB c = 3 := by simp [finB, mkA, mkB, h1, h2, h3]
def lkS (v0 v1 : Bs) (p0 p1 : Int) (s : Bs) : Nat → St
 | 0 => ⟨[(0, .rd (gT v0 v1 p0 p1)), (1, dS s), (2, dB false), (6, dS []), (7, dI 0), (8, dB false), (9, dI 0), (10, .rd (gT v0 v1 p0 p1)), (11, dI 0)], []⟩
 | 1 => ⟨[(0, .rd (gT v0 v1 p0 p1)), (1, dS (s.drop 1)), (2, dB false), (6, dS []), (7, dI 0), (8, dB false), (9, dI 0), (10, .rd (nT v0 v1 p0 p1)), (11, dI 1)], []⟩
 | 2 => ⟨[(0, .rd (gT v0 v1 p0 p1)), (1, dS (s.drop 2)), (2, dB false), (6, dS []), (7, dI 0), (8, dB false), (9, dI 0), (10, .rd (lfN v0 p0)), (11, dI 2)], []⟩
 | 3 => ⟨[(0, .rd (gT v0 v1 p0 p1)), (1, dS (s.drop 2)), (2, dB false), (6, dS []), (7, dI 0), (8, dB false), (9, dI 0), (10, .rd (lfN v1 p1)), (11, dI 2)], []⟩
 | _ => ⟨[(0, .rd (gT v0 v1 p0 p1)), (1, dS (s.drop 2)), (2, dB false), (6, dS []), (7, dI 0), (8, dB false), (9, dI 0), (10, nP), (11, dI 2)], []⟩
set_option maxHeartbeats 16000000 in
theorem lookup_spec (v0 v1 : Bs) (p0 p1 : Int) (h0 : 0 < p0) (h1 : 0 < p1) (s : Bs) (hs : ∀ c, s[0]? = some c → c = 126) : PCall Tryz.prog 280 [.rd (gT v0 v1 p0 p1), dS s, dB false] fun r => r = lkR (lookV 48 49 v0 v1 s) := by 
 refine pcall_of Tryz.func280 rfl rfl Tryz.ntmps280 (rs := [.tmp 6, .tmp 7, .tmp 8]) (tys := [9, 3, 4]) rfl rfl (by simp) ?_
 (refine awp_sr fun Y Yh => ?_; simp [go_sem]; ((repeat' (first|(refine ag_x ?_;simp [go_sem])|intro _|apply And.intro|(apply Yh;clear Yh Y)));all_goals first|apply Hold.mk|omega|with_reducible assumption|skip))
 (refine awp_sr fun Y Yh => ?_; simp [go_sem]; ((repeat' (first|(refine ag_x ?_;simp [go_sem])|intro _|apply And.intro|(apply Yh;clear Yh Y)));all_goals first|apply Hold.mk|omega|with_reducible assumption|skip))
 (refine awp_sr fun Y Yh => ?_; simp [go_sem]; ((repeat' (first|(refine ag_x ?_;simp [go_sem])|intro _|apply And.intro|(apply Yh;clear Yh Y)));all_goals first|apply Hold.mk|omega|with_reducible assumption|skip))
 (refine awp_sr fun Y Yh => ?_; simp [go_sem]; ((repeat' (first|(refine ag_x ?_;simp [go_sem])|intro _|apply And.intro|(apply Yh;clear Yh Y)));all_goals first|apply Hold.mk|omega|with_reducible assumption|skip))
 refine awp_seq_k fun K1 hK1 => ?_
 have tl1 : ∀ S', Cov S' ⟨[(6, dS []), (7, dI 0), (8, dB false)], []⟩ → lookV 48 49 v0 v1 s = none → K1 S' := fun S' hS hn => by
  refine hK1 _ ?_; clear hK1
  refine awp_cov hS ?_; clear hS
  rw [hn]
  (refine awp_ret ?_; simp [go_sem, lkR])
 have tl2 : ∀ v S', Cov S' ⟨[(6, dS v), (7, dI 2), (8, dB true)], []⟩ → lookV 48 49 v0 v1 s = some v → K1 S' := fun v S' hS hn => by
  refine hK1 _ ?_; clear hK1
  refine awp_cov hS ?_; clear hS
  rw [hn]
  (refine awp_ret ?_; simp [go_sem, lkR])
 clear hK1
 refine awp_block ?_
 refine awp_loop (σ := Nat) (lkS v0 v1 p0 p1 s) (fun k => k ≤ 4 ∧ (1 ≤ k → s[0]? = some 126) ∧ (k = 2 → s[1]? = some 48) ∧ (k = 3 → s[1]? = some 49) ∧ (k = 4 → s[1]? = some 126)) (fun k => 4 - k) 0 ?_ ?_ ?_
 ·unfold lkS; (refine cov_of ?_ ?_ <;> simp [go_sem])
 ·simp
 rintro k ⟨hk4, hk1, hk2, hk3, hk5⟩
 refine awp_seq_k fun K2 hK2 => ?_
 have hk : k = 0 ∨ k = 1 ∨ k = 2 ∨ k = 3 ∨ k = 4 := by omega
 rcases hk with rfl | rfl | rfl | rfl | rfl
 ·unfold lkS
  (refine awp_seq ?_; refine awp_ags ?_; simp only [AGs])
  (refine ag_true rfl ?_; simp [go_sem])
  (refine ag_nil false rfl (by simp [dstOk]) (by simp) (by first | exact .inl ⟨by kernel_rfl, rfl⟩ | exact .inr ⟨by kernel_rfl, rfl⟩) ?_; simp [go_sem, isNilD, nOp])
  (refine awp_if fun T F hT hF => ?_; simp [go_sem]; refine hT ?_; clear hT hF T F)
  refine awp_skip ?_
  refine hK2 _ ?_; clear hK2
  refine awp_block ?_
  refine awp_seq_k fun K4 hK4 => ?_
  (refine awp_sr fun Y Yh => ?_; simp [go_sem]; ((repeat' (first|(refine ag_false ?_ ?_ ?_;(focus (simp [go_sem, undef];done));(focus (simp [go_sem];done));simp [go_sem])|(refine ag_true ?_ ?_;(focus (simp [go_sem, undef];done));simp [go_sem])|(refine ag_x ?_;simp [go_sem, undef])|intro _|apply And.intro|(apply Yh;clear Yh Y)));all_goals first|apply Hold.mk|omega|with_reducible assumption|skip))
  all_goals first | exact rfl | skip
  (refine awp_if fun T F hT hF => ?_; simp [go_sem]; refine hF ?_; clear hT hF T F)
  refine awp_skip ?_
  refine hK4 _ ?_; clear hK4
  refine awp_seq_k fun K5 hK5 => ?_
  (refine awp_sr fun Y Yh => ?_; simp [go_sem]; ((repeat' (first|(refine ag_x ?_;simp [go_sem])|intro _|apply And.intro|(apply Yh;clear Yh Y)));all_goals first|apply Hold.mk|omega|with_reducible assumption|skip))
  match s, hs, tl1, tl2 with
  | [], hs, tl1, tl2 =>
   (refine awp_if fun T F hT hF => ?_; simp [go_sem]; refine hT ?_; clear hT hF T F)
   refine awp_exit ?_
   simp only [go_sem]
   refine tl1 _ ?_ rfl
   (refine cov_of ?_ ?_ <;> simp [go_sem])
  | c :: s, hs, tl1, tl2 =>
   have hc : c = 126 := hs c (by simp)
   subst hc
   (refine awp_if fun T F hT hF => ?_; simp [go_sem]; refine hF ?_; clear hT hF T F)
   refine awp_skip ?_
   refine hK5 _ ?_; clear hK5
   (refine awp_seq ?_; refine awp_ags ?_; simp only [AGs])
   (refine ag_true rfl ?_; simp [go_sem])
   (refine ag_true rfl ?_; simp [go_sem])
   (refine ag_true rfl ?_; simp [go_sem])
   (refine ag_true rfl ?_; simp [go_sem])
   (refine ag_nil false rfl (by simp [dstOk]) (by simp) (by first | exact .inl ⟨by kernel_rfl, rfl⟩ | exact .inr ⟨by kernel_rfl, rfl⟩) ?_; simp [go_sem, isNilD, nOp])
   (refine awp_if fun T F hT hF => ?_; simp [go_sem]; refine hT ?_; clear hT hF T F)
   have hgd := rC_drop (gT0 v0 v1 p0 p1) (dI 3) finB (show 126 < 256 by decide)
   have hgd' := mpL_drop finB (show 126 < 256 by decide)
   rw [fin_126] at hgd hgd'
   have h126 : (126 : UInt8).toNat = 126 := rfl
   ((refine awp_dr (.qs [0, 1, 2, 3, 4, 5, 6, 7] (.nil)) (by kernel_rfl) ?_ ?_ ?_ ?_); (kernel_rfl); (exact (by decide +kernel)); (kernel_rfl); intro Y Yh; ((repeat' (first|(refine ag_x ?_;simp [go_sem, hgd, hgd', h126])|refine adr_nil ?_|((first|refine adr_qs fun Y Yh=>?_|refine adr_y fun Y Yh=>?_);simp [go_sem, hgd, hgd', h126])|intro _|apply And.intro|(apply Yh;clear Yh Y)));all_goals first|apply Hold.mk|omega|with_reducible assumption|skip))
   refine awp_seq_k fun K8 hK8 => ?_
   (refine awp_sr fun Y Yh => ?_; simp [go_sem]; ((repeat' (first|(refine ag_x ?_;simp [go_sem])|intro _|apply And.intro|(apply Yh;clear Yh Y)));all_goals first|apply Hold.mk|omega|with_reducible assumption|skip))
   (refine awp_if fun T F hT hF => ?_; simp [go_sem]; refine hF ?_; clear hT hF T F)
   refine awp_skip ?_
   refine hK8 _ ?_; clear hK8
   (refine awp_sr fun Y Yh => ?_; simp [go_sem]; ((repeat' (first|(refine ag_x ?_;simp [go_sem])|intro _|apply And.intro|(apply Yh;clear Yh Y)));all_goals first|apply Hold.mk|omega|with_reducible assumption|skip))
   (refine awp_sr fun Y Yh => ?_; simp [go_sem]; ((repeat' (first|(refine ag_x ?_;simp [go_sem])|intro _|apply And.intro|(apply Yh;clear Yh Y)));all_goals first|apply Hold.mk|omega|with_reducible assumption|skip))
   (refine awp_r fun Y Yh => ?_; simp [go_sem]; ((repeat' (first|(refine ag_x ?_;simp [go_sem])|intro _|apply And.intro|(apply Yh;clear Yh Y)));all_goals first|apply Hold.mk|omega|with_reducible assumption|skip))
   refine ⟨1, ?_, ?_, ?_⟩
   ·unfold lkS; (refine cov_of ?_ ?_ <;> simp [go_sem, ba_cut])
   ·simp
   ·simp
 ·unfold lkS
  match s, tl1, hk1, hK2 with
  | [], _, q, _ => simp at q
  | c :: s, tl1, q1, hK2 =>
  simp at q1
  subst q1
  (refine awp_seq ?_; refine awp_ags ?_; simp only [AGs])
  (refine ag_true rfl ?_; simp [go_sem])
  (refine ag_nil false rfl (by simp [dstOk]) (by simp) (by first | exact .inl ⟨by kernel_rfl, rfl⟩ | exact .inr ⟨by kernel_rfl, rfl⟩) ?_; simp [go_sem, isNilD, nOp])
  (refine awp_if fun T F hT hF => ?_; simp [go_sem]; refine hT ?_; clear hT hF T F)
  refine awp_skip ?_
  refine hK2 _ ?_; clear hK2
  refine awp_block ?_
  refine awp_seq_k fun K4 hK4 => ?_
  (refine awp_sr fun Y Yh => ?_; simp [go_sem]; ((repeat' (first|(refine ag_false ?_ ?_ ?_;(focus (simp [go_sem, undef];done));(focus (simp [go_sem];done));simp [go_sem])|(refine ag_true ?_ ?_;(focus (simp [go_sem, undef];done));simp [go_sem])|(refine ag_x ?_;simp [go_sem, undef])|intro _|apply And.intro|(apply Yh;clear Yh Y)));all_goals first|apply Hold.mk|omega|with_reducible assumption|skip))
  all_goals first | exact rfl | skip
  (refine awp_if fun T F hT hF => ?_; simp [go_sem]; refine hF ?_; clear hT hF T F)
  refine awp_skip ?_
  refine hK4 _ ?_; clear hK4
  refine awp_seq_k fun K5 hK5 => ?_
  (refine awp_sr fun Y Yh => ?_; simp [go_sem]; ((repeat' (first|(refine ag_x ?_;simp [go_sem])|intro _|apply And.intro|(apply Yh;clear Yh Y)));all_goals first|apply Hold.mk|omega|with_reducible assumption|skip))
  match s, tl1 with
  | [], tl1 =>
   (refine awp_if fun T F hT hF => ?_; simp [go_sem]; refine hT ?_; clear hT hF T F)
   refine awp_exit ?_
   simp only [go_sem]
   refine tl1 _ ?_ rfl
   (refine cov_of ?_ ?_ <;> simp [go_sem])
  | d :: s, tl1 =>
   (refine awp_if fun T F hT hF => ?_; simp [go_sem]; refine hF ?_; clear hT hF T F)
   refine awp_skip ?_
   refine hK5 _ ?_; clear hK5
   (refine awp_seq ?_; refine awp_ags ?_; simp only [AGs])
   (refine ag_true rfl ?_; simp [go_sem])
   (refine ag_true rfl ?_; simp [go_sem])
   (refine ag_true rfl ?_; simp [go_sem])
   (refine ag_true rfl ?_; simp [go_sem])
   (refine ag_nil false rfl (by simp [dstOk]) (by simp) (by first | exact .inl ⟨by kernel_rfl, rfl⟩ | exact .inr ⟨by kernel_rfl, rfl⟩) ?_; simp [go_sem, isNilD, nOp])
   (refine awp_if fun T F hT hF => ?_; simp [go_sem]; refine hT ?_; clear hT hF T F)
   have hlt : d.toNat < 256 := d.toNat_lt
   have hgd := rC_drop (gT0 v0 v1 p0 p1) (dI 3) finB hlt
   have hgd' := mpL_drop finB hlt
   have h48 : (48 : UInt8).toNat = 48 := rfl
   have h49 : (49 : UInt8).toNat = 49 := rfl
   have h126 : (126 : UInt8).toNat = 126 := rfl
   have hd4 : d = 48 ∨ d = 49 ∨ d = 126 ∨ (d ≠ 48 ∧ d ≠ 49 ∧ d ≠ 126) := by
    by_cases q1 : d = 48
    ·exact .inl q1
    ·by_cases q2 : d = 49
     ·exact .inr (.inl q2)
     ·by_cases q3 : d = 126
      ·exact .inr (.inr (.inl q3))
      ·exact .inr (.inr (.inr ⟨q1, q2, q3⟩))
   rcases hd4 with rfl | rfl | rfl | ⟨q1, q2, q3⟩
   ·rw [h48] at hgd hgd'
    rw [fin_48] at hgd hgd'
    ((refine awp_dr (.qs [0, 1, 2, 3, 4, 5, 6, 7] (.nil)) (by kernel_rfl) ?_ ?_ ?_ ?_); (kernel_rfl); (exact (by decide +kernel)); (kernel_rfl); intro Y Yh; ((repeat' (first|(refine ag_x ?_;simp [go_sem, hgd, hgd', h48])|refine adr_nil ?_|((first|refine adr_qs fun Y Yh=>?_|refine adr_y fun Y Yh=>?_);simp [go_sem, hgd, hgd', h48])|intro _|apply And.intro|(apply Yh;clear Yh Y)));all_goals first|apply Hold.mk|omega|with_reducible assumption|skip))
    refine awp_seq_k fun K8 hK8 => ?_
    (refine awp_sr fun Y Yh => ?_; simp [go_sem]; ((repeat' (first|(refine ag_x ?_;simp [go_sem])|intro _|apply And.intro|(apply Yh;clear Yh Y)));all_goals first|apply Hold.mk|omega|with_reducible assumption|skip))
    (refine awp_if fun T F hT hF => ?_; simp [go_sem]; refine hF ?_; clear hT hF T F)
    refine awp_skip ?_
    refine hK8 _ ?_; clear hK8
    (refine awp_sr fun Y Yh => ?_; simp [go_sem]; ((repeat' (first|(refine ag_x ?_;simp [go_sem])|intro _|apply And.intro|(apply Yh;clear Yh Y)));all_goals first|apply Hold.mk|omega|with_reducible assumption|skip))
    (refine awp_sr fun Y Yh => ?_; simp [go_sem]; ((repeat' (first|(refine ag_x ?_;simp [go_sem])|intro _|apply And.intro|(apply Yh;clear Yh Y)));all_goals first|apply Hold.mk|omega|with_reducible assumption|skip))
    (refine awp_r fun Y Yh => ?_; simp [go_sem]; ((repeat' (first|(refine ag_x ?_;simp [go_sem])|intro _|apply And.intro|(apply Yh;clear Yh Y)));all_goals first|apply Hold.mk|omega|with_reducible assumption|skip))
    refine ⟨2, ?_, ?_, ?_⟩
    ·unfold lkS; (refine cov_of ?_ ?_ <;> simp [go_sem, ba_cut])
    ·simp
    ·simp
   ·rw [h49] at hgd hgd'
    rw [fin_49] at hgd hgd'
    ((refine awp_dr (.qs [0, 1, 2, 3, 4, 5, 6, 7] (.nil)) (by kernel_rfl) ?_ ?_ ?_ ?_); (kernel_rfl); (exact (by decide +kernel)); (kernel_rfl); intro Y Yh; ((repeat' (first|(refine ag_x ?_;simp [go_sem, hgd, hgd', h49])|refine adr_nil ?_|((first|refine adr_qs fun Y Yh=>?_|refine adr_y fun Y Yh=>?_);simp [go_sem, hgd, hgd', h49])|intro _|apply And.intro|(apply Yh;clear Yh Y)));all_goals first|apply Hold.mk|omega|with_reducible assumption|skip))
    refine awp_seq_k fun K8 hK8 => ?_
    (refine awp_sr fun Y Yh => ?_; simp [go_sem]; ((repeat' (first|(refine ag_x ?_;simp [go_sem])|intro _|apply And.intro|(apply Yh;clear Yh Y)));all_goals first|apply Hold.mk|omega|with_reducible assumption|skip))
    (refine awp_if fun T F hT hF => ?_; simp [go_sem]; refine hF ?_; clear hT hF T F)
    refine awp_skip ?_
    refine hK8 _ ?_; clear hK8
    (refine awp_sr fun Y Yh => ?_; simp [go_sem]; ((repeat' (first|(refine ag_x ?_;simp [go_sem])|intro _|apply And.intro|(apply Yh;clear Yh Y)));all_goals first|apply Hold.mk|omega|with_reducible assumption|skip))
    (refine awp_sr fun Y Yh => ?_; simp [go_sem]; ((repeat' (first|(refine ag_x ?_;simp [go_sem])|intro _|apply And.intro|(apply Yh;clear Yh Y)));all_goals first|apply Hold.mk|omega|with_reducible assumption|skip))
    (refine awp_r fun Y Yh => ?_; simp [go_sem]; ((repeat' (first|(refine ag_x ?_;simp [go_sem])|intro _|apply And.intro|(apply Yh;clear Yh Y)));all_goals first|apply Hold.mk|omega|with_reducible assumption|skip))
    refine ⟨3, ?_, ?_, ?_⟩
    ·unfold lkS; (refine cov_of ?_ ?_ <;> simp [go_sem, ba_cut])
    ·simp
    ·simp
   ·rw [h126] at hgd hgd'
    rw [fin_126] at hgd hgd'
    ((refine awp_dr (.qs [0, 1, 2, 3, 4, 5, 6, 7] (.nil)) (by kernel_rfl) ?_ ?_ ?_ ?_); (kernel_rfl); (exact (by decide +kernel)); (kernel_rfl); intro Y Yh; ((repeat' (first|(refine ag_x ?_;simp [go_sem, hgd, hgd', h126])|refine adr_nil ?_|((first|refine adr_qs fun Y Yh=>?_|refine adr_y fun Y Yh=>?_);simp [go_sem, hgd, hgd', h126])|intro _|apply And.intro|(apply Yh;clear Yh Y)));all_goals first|apply Hold.mk|omega|with_reducible assumption|skip))
    refine awp_seq_k fun K8 hK8 => ?_
    (refine awp_sr fun Y Yh => ?_; simp [go_sem]; ((repeat' (first|(refine ag_x ?_;simp [go_sem])|intro _|apply And.intro|(apply Yh;clear Yh Y)));all_goals first|apply Hold.mk|omega|with_reducible assumption|skip))
    (refine awp_if fun T F hT hF => ?_; simp [go_sem]; refine hF ?_; clear hT hF T F)
    refine awp_skip ?_
    refine hK8 _ ?_; clear hK8
    (refine awp_sr fun Y Yh => ?_; simp [go_sem]; ((repeat' (first|(refine ag_x ?_;simp [go_sem])|intro _|apply And.intro|(apply Yh;clear Yh Y)));all_goals first|apply Hold.mk|omega|with_reducible assumption|skip))
    (refine awp_sr fun Y Yh => ?_; simp [go_sem]; ((repeat' (first|(refine ag_x ?_;simp [go_sem])|intro _|apply And.intro|(apply Yh;clear Yh Y)));all_goals first|apply Hold.mk|omega|with_reducible assumption|skip))
    (refine awp_r fun Y Yh => ?_; simp [go_sem]; ((repeat' (first|(refine ag_x ?_;simp [go_sem])|intro _|apply And.intro|(apply Yh;clear Yh Y)));all_goals first|apply Hold.mk|omega|with_reducible assumption|skip))
    refine ⟨4, ?_, ?_, ?_⟩
    ·unfold lkS; (refine cov_of ?_ ?_ <;> simp [go_sem, ba_cut])
    ·simp
    ·simp
   ·have hf : finB d.toNat = 3 := fin_other (fun q => q1 (UInt8.toNat_inj.1 (by omega))) (fun q => q2 (UInt8.toNat_inj.1 (by omega))) (fun q => q3 (UInt8.toNat_inj.1 (by omega)))
    rw [hf] at hgd hgd'
    have hlt' : (d.toNat : Int) < 256 := by omega
    ((refine awp_dr (.qs [0, 1, 2, 3, 4, 5, 6, 7] (.nil)) (by kernel_rfl) ?_ ?_ ?_ ?_); (kernel_rfl); (exact (by decide +kernel)); (kernel_rfl); intro Y Yh; ((repeat' (first|(refine ag_x ?_;simp [go_sem, hgd, hgd', hlt, hlt'])|refine adr_nil ?_|((first|refine adr_qs fun Y Yh=>?_|refine adr_y fun Y Yh=>?_);simp [go_sem, hgd, hgd', hlt, hlt'])|intro _|apply And.intro|(apply Yh;clear Yh Y)));all_goals first|apply Hold.mk|omega|with_reducible assumption|skip))
    refine awp_seq_k fun K8 hK8 => ?_
    (refine awp_sr fun Y Yh => ?_; simp [go_sem]; ((repeat' (first|(refine ag_x ?_;simp [go_sem])|intro _|apply And.intro|(apply Yh;clear Yh Y)));all_goals first|apply Hold.mk|omega|with_reducible assumption|skip))
    (refine awp_if fun T F hT hF => ?_; simp [go_sem]; refine hT ?_; clear hT hF T F)
    refine awp_exit ?_
    simp only [go_sem]
    refine tl1 _ ?_ (by simp [lookV, q1, q2])
    (refine cov_of ?_ ?_ <;> simp [go_sem])
 ·unfold lkS
  match s, tl2, hk1, hk2 with
  | [], _, q, _ => simp at q
  | [_], _, _, q => simp at q
  | c :: d :: s, tl2, q1, q2 =>
  simp at q1 q2
  subst q1 q2
  (refine awp_seq ?_; refine awp_ags ?_; simp only [AGs])
  (refine ag_true rfl ?_; simp [go_sem])
  (refine ag_nil false rfl (by simp [dstOk]) (by simp) (by first | exact .inl ⟨by kernel_rfl, rfl⟩ | exact .inr ⟨by kernel_rfl, rfl⟩) ?_; simp [go_sem, isNilD, nOp])
  (refine awp_if fun T F hT hF => ?_; simp [go_sem]; refine hT ?_; clear hT hF T F)
  refine awp_skip ?_
  refine hK2 _ ?_; clear hK2
  refine awp_block ?_
  refine awp_seq_k fun K4 hK4 => ?_
  have tl4 : ∀ S', Cov S' ⟨[(0, .rd (gT v0 v1 p0 p1)), (1, dS s), (2, dB false), (6, dS v0), (7, dI 2), (8, dB true), (9, dI p0), (10, .rd (lfN v0 p0)), (11, dI 2)], []⟩ → K4 S' := fun S' hS => by
   refine hK4 _ ?_; clear hK4
   refine awp_cov hS ?_; clear hS
   refine awp_seq_k fun K5 hK5 => ?_
   (refine awp_sr fun Y Yh => ?_; simp [go_sem]; ((repeat' (first|(refine ag_x ?_;simp [go_sem])|intro _|apply And.intro|(apply Yh;clear Yh Y)));all_goals first|apply Hold.mk|omega|with_reducible assumption|skip))
   match s with
   | [] =>
    (refine awp_if fun T F hT hF => ?_; simp [go_sem]; refine hT ?_; clear hT hF T F)
    refine awp_exit ?_
    simp only [go_sem]
    refine tl2 v0 _ ?_ (by simp [lookV])
    (refine cov_of ?_ ?_ <;> simp [go_sem])
   | e :: s =>
    (refine awp_if fun T F hT hF => ?_; simp [go_sem]; refine hF ?_; clear hT hF T F)
    refine awp_skip ?_
    refine hK5 _ ?_; clear hK5
    (refine awp_seq ?_; refine awp_ags ?_; simp only [AGs])
    (refine ag_true rfl ?_; simp [go_sem])
    (refine ag_true rfl ?_; simp [go_sem])
    (refine ag_true rfl ?_; simp [go_sem])
    (refine ag_true rfl ?_; simp [go_sem])
    (refine ag_nil true rfl (by simp [dstOk]) (by simp) (by first | exact .inl ⟨by kernel_rfl, rfl⟩ | exact .inr ⟨by kernel_rfl, rfl⟩) ?_; simp [go_sem, isNilD, nOp])
    (refine awp_if fun T F hT hF => ?_; simp [go_sem]; refine hF ?_; clear hT hF T F)
    (refine awp_sr fun Y Yh => ?_; simp [go_sem]; ((repeat' (first|(refine ag_false ?_ ?_ ?_;(focus (simp [go_sem, undef];done));(focus (simp [go_sem];done));simp [go_sem])|(refine ag_true ?_ ?_;(focus (simp [go_sem, undef];done));simp [go_sem])|(refine ag_x ?_;simp [go_sem, undef])|intro _|apply And.intro|(apply Yh;clear Yh Y)));all_goals first|apply Hold.mk|omega|with_reducible assumption|skip))
    (refine awp_if fun T F hT hF => ?_; simp [go_sem]; refine hF ?_; clear hT hF T F)
    refine awp_exit ?_
    simp only [go_sem]
    refine tl2 v0 _ ?_ (by simp [lookV])
    (refine cov_of ?_ ?_ <;> simp [go_sem])
  clear hK4
  (refine awp_sr fun Y Yh => ?_; simp [go_sem, h0]; ((repeat' (first|(refine ag_false ?_ ?_ ?_;(focus (simp [go_sem, undef, h0];done));(focus (simp [go_sem];done));simp [go_sem, h0])|(refine ag_true ?_ ?_;(focus (simp [go_sem, undef, h0];done));simp [go_sem, h0])|(refine ag_x ?_;simp [go_sem, undef, h0])|intro _|apply And.intro|(apply Yh;clear Yh Y)));all_goals first|apply Hold.mk|omega|with_reducible assumption|skip))
  all_goals first | exact rfl | skip
  (refine awp_if fun T F hT hF => ?_; simp [go_sem]; refine hT ?_; clear hT hF T F)
  (refine awp_sr fun Y Yh => ?_; simp [go_sem]; ((repeat' (first|(refine ag_x ?_;simp [go_sem])|intro _|apply And.intro|(apply Yh;clear Yh Y)));all_goals first|apply Hold.mk|omega|with_reducible assumption|skip))
  (refine awp_sr fun Y Yh => ?_; simp [go_sem]; ((repeat' (first|(refine ag_x ?_;simp [go_sem])|intro _|apply And.intro|(apply Yh;clear Yh Y)));all_goals first|apply Hold.mk|omega|with_reducible assumption|skip))
  (refine awp_sr fun Y Yh => ?_; simp [go_sem]; ((repeat' (first|(refine ag_x ?_;simp [go_sem])|intro _|apply And.intro|(apply Yh;clear Yh Y)));all_goals first|apply Hold.mk|omega|with_reducible assumption|skip))
  (refine awp_r fun Y Yh => ?_; simp [go_sem]; ((repeat' (first|(refine ag_x ?_;simp [go_sem])|intro _|apply And.intro|(apply Yh;clear Yh Y)));all_goals first|apply Hold.mk|omega|with_reducible assumption|skip))
  refine tl4 _ ?_
  (refine cov_of ?_ ?_ <;> simp [go_sem])
 ·unfold lkS
  match s, tl2, hk1, hk3 with
  | [], _, q, _ => simp at q
  | [_], _, _, q => simp at q
  | c :: d :: s, tl2, q1, q2 =>
  simp at q1 q2
  subst q1 q2
  (refine awp_seq ?_; refine awp_ags ?_; simp only [AGs])
  (refine ag_true rfl ?_; simp [go_sem])
  (refine ag_nil false rfl (by simp [dstOk]) (by simp) (by first | exact .inl ⟨by kernel_rfl, rfl⟩ | exact .inr ⟨by kernel_rfl, rfl⟩) ?_; simp [go_sem, isNilD, nOp])
  (refine awp_if fun T F hT hF => ?_; simp [go_sem]; refine hT ?_; clear hT hF T F)
  refine awp_skip ?_
  refine hK2 _ ?_; clear hK2
  refine awp_block ?_
  refine awp_seq_k fun K4 hK4 => ?_
  have tl4 : ∀ S', Cov S' ⟨[(0, .rd (gT v0 v1 p0 p1)), (1, dS s), (2, dB false), (6, dS v1), (7, dI 2), (8, dB true), (9, dI p1), (10, .rd (lfN v1 p1)), (11, dI 2)], []⟩ → K4 S' := fun S' hS => by
   refine hK4 _ ?_; clear hK4
   refine awp_cov hS ?_; clear hS
   refine awp_seq_k fun K5 hK5 => ?_
   (refine awp_sr fun Y Yh => ?_; simp [go_sem]; ((repeat' (first|(refine ag_x ?_;simp [go_sem])|intro _|apply And.intro|(apply Yh;clear Yh Y)));all_goals first|apply Hold.mk|omega|with_reducible assumption|skip))
   match s with
   | [] =>
    (refine awp_if fun T F hT hF => ?_; simp [go_sem]; refine hT ?_; clear hT hF T F)
    refine awp_exit ?_
    simp only [go_sem]
    refine tl2 v1 _ ?_ (by simp [lookV])
    (refine cov_of ?_ ?_ <;> simp [go_sem])
   | e :: s =>
    (refine awp_if fun T F hT hF => ?_; simp [go_sem]; refine hF ?_; clear hT hF T F)
    refine awp_skip ?_
    refine hK5 _ ?_; clear hK5
    (refine awp_seq ?_; refine awp_ags ?_; simp only [AGs])
    (refine ag_true rfl ?_; simp [go_sem])
    (refine ag_true rfl ?_; simp [go_sem])
    (refine ag_true rfl ?_; simp [go_sem])
    (refine ag_true rfl ?_; simp [go_sem])
    (refine ag_nil true rfl (by simp [dstOk]) (by simp) (by first | exact .inl ⟨by kernel_rfl, rfl⟩ | exact .inr ⟨by kernel_rfl, rfl⟩) ?_; simp [go_sem, isNilD, nOp])
    (refine awp_if fun T F hT hF => ?_; simp [go_sem]; refine hF ?_; clear hT hF T F)
    (refine awp_sr fun Y Yh => ?_; simp [go_sem]; ((repeat' (first|(refine ag_false ?_ ?_ ?_;(focus (simp [go_sem, undef];done));(focus (simp [go_sem];done));simp [go_sem])|(refine ag_true ?_ ?_;(focus (simp [go_sem, undef];done));simp [go_sem])|(refine ag_x ?_;simp [go_sem, undef])|intro _|apply And.intro|(apply Yh;clear Yh Y)));all_goals first|apply Hold.mk|omega|with_reducible assumption|skip))
    (refine awp_if fun T F hT hF => ?_; simp [go_sem]; refine hF ?_; clear hT hF T F)
    refine awp_exit ?_
    simp only [go_sem]
    refine tl2 v1 _ ?_ (by simp [lookV])
    (refine cov_of ?_ ?_ <;> simp [go_sem])
  clear hK4
  (refine awp_sr fun Y Yh => ?_; simp [go_sem, h1]; ((repeat' (first|(refine ag_false ?_ ?_ ?_;(focus (simp [go_sem, undef, h1];done));(focus (simp [go_sem];done));simp [go_sem, h1])|(refine ag_true ?_ ?_;(focus (simp [go_sem, undef, h1];done));simp [go_sem, h1])|(refine ag_x ?_;simp [go_sem, undef, h1])|intro _|apply And.intro|(apply Yh;clear Yh Y)));all_goals first|apply Hold.mk|omega|with_reducible assumption|skip))
  all_goals first | exact rfl | skip
  (refine awp_if fun T F hT hF => ?_; simp [go_sem]; refine hT ?_; clear hT hF T F)
  (refine awp_sr fun Y Yh => ?_; simp [go_sem]; ((repeat' (first|(refine ag_x ?_;simp [go_sem])|intro _|apply And.intro|(apply Yh;clear Yh Y)));all_goals first|apply Hold.mk|omega|with_reducible assumption|skip))
  (refine awp_sr fun Y Yh => ?_; simp [go_sem]; ((repeat' (first|(refine ag_x ?_;simp [go_sem])|intro _|apply And.intro|(apply Yh;clear Yh Y)));all_goals first|apply Hold.mk|omega|with_reducible assumption|skip))
  (refine awp_sr fun Y Yh => ?_; simp [go_sem]; ((repeat' (first|(refine ag_x ?_;simp [go_sem])|intro _|apply And.intro|(apply Yh;clear Yh Y)));all_goals first|apply Hold.mk|omega|with_reducible assumption|skip))
  (refine awp_r fun Y Yh => ?_; simp [go_sem]; ((repeat' (first|(refine ag_x ?_;simp [go_sem])|intro _|apply And.intro|(apply Yh;clear Yh Y)));all_goals first|apply Hold.mk|omega|with_reducible assumption|skip))
  refine tl4 _ ?_
  (refine cov_of ?_ ?_ <;> simp [go_sem])
 ·unfold lkS
  match s, tl1, hk1, hk5, hK2 with
  | [], _, q, _, _ => simp at q
  | [_], _, _, q, _ => simp at q
  | c :: d :: s, tl1, q1, q2, hK2 =>
  simp at q1 q2
  subst q1 q2
  (refine awp_seq ?_; refine awp_ags ?_; simp only [AGs])
  (refine ag_true rfl ?_; simp [go_sem])
  (refine ag_nil true rfl (by simp [dstOk]) (by simp) (by first | exact .inl ⟨by kernel_rfl, rfl⟩ | exact .inr ⟨by kernel_rfl, rfl⟩) ?_; simp [go_sem, isNilD, nOp])
  (refine awp_if fun T F hT hF => ?_; simp [go_sem]; refine hF ?_; clear hT hF T F)
  refine awp_exit ?_
  simp only [go_sem]
  refine tl1 _ ?_ (by simp [lookV])
  (refine cov_of ?_ ?_ <;> simp [go_sem])
@[go_sem] theorem if134 : isIface Tryz.prog 134 = true := by kernel_rfl
structure WSt where
 i : Nat
 l : Nat
 o : Bs
 g : Nat
def wInv (v0 v1 s : Bs) (x : WSt) : Prop := x.l ≤ x.i ∧ x.l ≤ s.length ∧ x.i ≤ s.length + 1 ∧ x.o ++ (s.drop x.l).take (x.i - x.l) ++ repV 48 49 v0 v1 (s.drop x.i) = repV 48 49 v0 v1 s
theorem take_step {s : Bs} {l i : Nat} (h : l ≤ i) (hi : i < s.length) : (s.drop l).take (i + 1 - l) = (s.drop l).take (i - l) ++ [s[i]] := by
 rw [show i + 1 - l = (i - l) + 1 by omega, List.take_succ_eq_append_getElem (by simp; omega)]
 congr 2
 simp only [List.getElem_drop]
 congr 1
 omega
set_option maxHeartbeats 16000000 in
theorem wstr_spec (gb g0 : Nat) (v0 v1 : Bs) (p0 p1 : Int) (h0 : 0 < p0) (h1 : 0 < p1) (hv0 : v0.length ≤ 2) (hv1 : v1.length ≤ 2) (s : Bs) (hl : s.length ≤ 1000000) :
  ACall Tryz.prog 278 [.rd (gT v0 v1 p0 p1), .ifc 317 (.ptr 900060 gb 0), dS s] [(900060, (gb, .box [.own 900061 g0])), (900061, (g0, .row 5 1 (bytesR [])))] [900060, 900061] fun ps r =>
   ∃ g' n, ps = [(gb, .box [.own 900061 g']), (g', .row 5 1 (bytesR (repV 48 49 v0 v1 s)))] ∧ r = .tup [dI n, .v .nilIface] := by 
 refine acall_of Tryz.func278 rfl rfl Tryz.ntmps278 (rs := [.tmp 6, .tmp 7]) (tys := [3, 134]) rfl rfl (by simp) (by simp [notFroz]) ?_
 have hrl := repV_len 48 49 v0 v1 hv0 hv1 s.length s (Nat.le_refl _)
 (refine awp_sr fun Y Yh => ?_; simp [go_sem]; ((repeat' (first|(refine ag_x ?_;simp [go_sem])|intro _|apply And.intro|(apply Yh;clear Yh Y)));all_goals first|apply Hold.mk|omega|with_reducible assumption|skip))
 (refine awp_sr fun Y Yh => ?_; simp [go_sem]; ((repeat' (first|(refine ag_x ?_;simp [go_sem])|intro _|apply And.intro|(apply Yh;clear Yh Y)));all_goals first|apply Hold.mk|omega|with_reducible assumption|skip))
 (refine callA_l [900060, 900061] (by first|exact .inl ⟨rfl,rfl⟩|exact .inr rfl) (by simp [go_sem]) ?_; intro args ha; simp [go_sem] at ha; subst ha; refine ⟨_, _, (gsw_spec gb g0 (bytesR [])), (by simp [go_sem]), ?_⟩; rintro ps r hps ⟨rfl, rfl⟩; simp [go_sem]; ((repeat' (first|(refine ag_x ?_;simp [go_sem])|intro _|apply And.intro|(apply Yh;clear Yh Y)));all_goals first|apply Hold.mk|omega|with_reducible assumption|skip))
 (refine awp_sr fun Y Yh => ?_; simp [go_sem]; ((repeat' (first|(refine ag_x ?_;simp [go_sem])|intro _|apply And.intro|(apply Yh;clear Yh Y)));all_goals first|apply Hold.mk|omega|with_reducible assumption|skip))
 (refine awp_sr fun Y Yh => ?_; simp [go_sem]; ((repeat' (first|(refine ag_x ?_;simp [go_sem])|intro _|apply And.intro|(apply Yh;clear Yh Y)));all_goals first|apply Hold.mk|omega|with_reducible assumption|skip))
 refine awp_seq_k fun K1 hK1 => ?_
 (refine awp_sr fun Y Yh => ?_; simp [go_sem]; ((repeat' (first|(refine ag_x ?_;simp [go_sem])|intro _|apply And.intro|(apply Yh;clear Yh Y)));all_goals first|apply Hold.mk|omega|with_reducible assumption|skip))
 refine awp_block ?_
 refine awp_loop (σ := WSt) (fun x => ⟨[(0, .rd (gT v0 v1 p0 p1)), (2, dS s), (6, dI x.o.length), (7, .v .nilIface), (8, .ifc 317 (.ptr 900060 gb 0)), (9, dI x.l), (11, dB false), (12, dI x.i)], [(900060, (gb, .box [.own 900061 x.g])), (900061, (x.g, .row 5 1 (bytesR x.o)))]⟩)
  (wInv v0 v1 s) (fun x => s.length + 2 - x.i) ⟨0, 0, [], g0⟩ ?_ (by simp [wInv]) ?_
 ·(refine cov_of ?_ ?_ <;> simp [go_sem])
 rintro ⟨i, l, o, g⟩ ⟨hli, hls, his, ho⟩
 simp only at hli hls his ho ⊢
 have hol : o.length ≤ 1000000 := by
  have := congrArg List.length ho
  simp only [List.length_append] at this
  omega
 refine awp_seq_k fun K2 hK2 => ?_
 (refine awp_sr fun Y Yh => ?_; simp [go_sem]; ((repeat' (first|(refine ag_x ?_;simp [go_sem])|intro _|apply And.intro|(apply Yh;clear Yh Y)));all_goals first|apply Hold.mk|omega|with_reducible assumption|skip))
 by_cases hi : i ≤ s.length
 ·(refine awp_if fun T F hT hF => ?_; simp [go_sem, hi]; refine hT ?_; clear hT hF T F)
  refine awp_skip ?_
  refine hK2 _ ?_; clear hK2
  refine awp_block ?_
  refine awp_seq_k fun K4 hK4 => ?_
  have tl4 : ∀ S', Cov S' ⟨[(0, .rd (gT v0 v1 p0 p1)), (2, dS s), (6, dI o.length), (7, .v .nilIface), (8, .ifc 317 (.ptr 900060 gb 0)), (9, dI l), (11, dB false), (12, dI i)], [(900060, (gb, .box [.own 900061 g])), (900061, (g, .row 5 1 (bytesR o)))]⟩ → (∀ c, (s.drop i)[0]? = some c → c = 126) → K4 S' := fun S' hS hp => by
   refine hK4 _ ?_; clear hK4
   refine awp_cov hS ?_; clear hS
   have HL := lookup_spec v0 v1 p0 p1 h0 h1 (s.drop i) hp
   have hi' : (i : Int) ≤ s.length := by omega
   cases hq : lookV 48 49 v0 v1 (s.drop i) with
   | none =>
    rw [hq] at HL
    simp only [lkR] at HL
    generalize gT v0 v1 p0 p1 = G at *
    (refine awp_sr fun Y Yh => ?_; simp [go_sem, hi, hi']; ((repeat' (first|(refine ag_x ?_;simp [go_sem, hi, hi'])|intro _|apply And.intro|(apply Yh;clear Yh Y)));all_goals first|apply Hold.mk|omega|with_reducible assumption|skip))
    ((try refine CallT.toA ?_); refine callT_m (by first|exact .inl ⟨rfl,rfl⟩|exact .inr rfl) (by simp [go_sem]) ?_; intro args ha; simp [go_sem] at ha; subst ha; refine ⟨_, HL, ?_⟩; rintro _ rfl; simp [go_sem]; ((repeat' (first|(refine ag_x ?_;simp [go_sem])|intro _|apply And.intro|(apply Yh;clear Yh Y)));all_goals first|apply Hold.mk|omega|with_reducible assumption|skip))
    (refine awp_sr fun Y Yh => ?_; simp [go_sem]; ((repeat' (first|(refine ag_x ?_;simp [go_sem])|intro _|apply And.intro|(apply Yh;clear Yh Y)));all_goals first|apply Hold.mk|omega|with_reducible assumption|skip))
    refine awp_seq_k fun K5 hK5 => ?_
    (refine awp_sr fun Y Yh => ?_; simp [go_sem]; ((repeat' (first|(refine ag_x ?_;simp [go_sem])|intro _|apply And.intro|(apply Yh;clear Yh Y)));all_goals first|apply Hold.mk|omega|with_reducible assumption|skip))
    (refine awp_if fun T F hT hF => ?_; simp [go_sem]; refine hF ?_; clear hT hF T F)
    refine awp_skip ?_
    refine hK5 _ ?_; clear hK5
    (refine awp_r fun Y Yh => ?_; simp [go_sem]; ((repeat' (first|(refine ag_x ?_;simp [go_sem])|intro _|apply And.intro|(apply Yh;clear Yh Y)));all_goals first|apply Hold.mk|omega|with_reducible assumption|skip))
    refine ⟨⟨i + 1, l, o, g⟩, ?_, ⟨by simp only; omega, hls, by simp only; omega, ?_⟩, by simp only; omega⟩
    ·(refine cov_of ?_ ?_ <;> simp [go_sem])
    ·simp only
     rw [← ho]
     by_cases hn : i < s.length
     ·have hd0 : s.drop i = s[i] :: s.drop (i + 1) := List.drop_eq_getElem_cons hn
      rw [hd0] at hq
      rw [hd0, repV_none hq, take_step hli hn]
      simp
     ·have e1 : s.drop i = [] := List.drop_eq_nil_of_le (by omega)
      have e2 : s.drop (i + 1) = [] := List.drop_eq_nil_of_le (by omega)
      rw [e1, e2, List.take_of_length_le (by simp; omega), List.take_of_length_le (by simp; omega)]
   | some v =>
    rw [hq] at HL
    simp only [lkR] at HL
    have h2 := lookV_len hq
    generalize gT v0 v1 p0 p1 = G at *
    (refine awp_sr fun Y Yh => ?_; simp [go_sem, hi, hi']; ((repeat' (first|(refine ag_x ?_;simp [go_sem, hi, hi'])|intro _|apply And.intro|(apply Yh;clear Yh Y)));all_goals first|apply Hold.mk|omega|with_reducible assumption|skip))
    ((try refine CallT.toA ?_); refine callT_m (by first|exact .inl ⟨rfl,rfl⟩|exact .inr rfl) (by simp [go_sem]) ?_; intro args ha; simp [go_sem] at ha; subst ha; refine ⟨_, HL, ?_⟩; rintro _ rfl; simp [go_sem]; ((repeat' (first|(refine ag_x ?_;simp [go_sem])|intro _|apply And.intro|(apply Yh;clear Yh Y)));all_goals first|apply Hold.mk|omega|with_reducible assumption|skip))
    (refine awp_sr fun Y Yh => ?_; simp [go_sem]; ((repeat' (first|(refine ag_x ?_;simp [go_sem])|intro _|apply And.intro|(apply Yh;clear Yh Y)));all_goals first|apply Hold.mk|omega|with_reducible assumption|skip))
    refine awp_seq_k fun K5 hK5 => ?_
    (refine awp_sr fun Y Yh => ?_; simp [go_sem]; ((repeat' (first|(refine ag_x ?_;simp [go_sem])|intro _|apply And.intro|(apply Yh;clear Yh Y)));all_goals first|apply Hold.mk|omega|with_reducible assumption|skip))
    (refine awp_if fun T F hT hF => ?_; simp [go_sem]; refine hT ?_; clear hT hF T F)
    have hls' : (l : Int) ≤ s.length := by omega
    have hli' : (l : Int) ≤ i := by omega
    ((refine awp_dr (.qs [0, 1, 2, 3, 4] (.one 5 (.one 6 (.qs [7] (.one 8 (.qs [9, 10, 11, 12, 13] .nil)))))) (by kernel_rfl) ?_ ?_ ?_ ?_); (kernel_rfl); (exact (by decide +kernel)); (kernel_rfl); intro Y Yh; ((repeat' (first|refine adr_nil ?_|((first|refine adr_qs fun Y Yh=>?_|refine adr_y fun Y Yh=>?_);simp [go_sem, hls', hi', hli, hi, hls, hli'])|apply And.intro|(apply Yh;clear Yh Y)));all_goals first|apply Hold.mk|omega|with_reducible assumption|skip))
    refine ag_mkimeth (by simp [dstOk]) ?_
    simp [go_sem]
    intro u0
    ((repeat' (first|refine adr_nil ?_|((first|refine adr_qs fun Y Yh=>?_|refine adr_y fun Y Yh=>?_);simp [go_sem])|apply And.intro|(apply Yh;clear Yh Y)));all_goals first|apply Hold.mk|omega|with_reducible assumption|skip)
    refine ag_nilmeth (name := "WriteString") (t := 317) (by simp [dstOk]) (fun _ _ => by kernel_rfl) ?_
    simp [go_sem]
    ((repeat' (first|refine adr_nil ?_|((first|refine adr_qs fun Y Yh=>?_|refine adr_y fun Y Yh=>?_);simp [go_sem, ba_cut])|apply And.intro|(apply Yh;clear Yh Y)));all_goals first|apply Hold.mk|omega|with_reducible assumption|skip)
    refine ag_invoke 287 317 (by simp [dstOk]) (fun _ _ => by kernel_rfl) ?_
    simp [go_sem, ba_cut]
    have hxl : ((s.drop l).take (i - l)).length ≤ 1000000 := by simp; omega
    have ho2 : o ++ (s.drop l).take (i - l) ++ (v ++ repV 48 49 v0 v1 (s.drop (i + 2))) = repV 48 49 v0 v1 s := by
     rw [← ho, repV_some hq, List.drop_drop]
    have hvl : v.length ≤ 1000000 := by
     have := congrArg List.length ho2
     simp only [List.length_append] at this
     omega
    generalize hX : (s.drop l).take (i - l) = X at *
    (refine callA_l [900060, 900061] (by first|exact .inl ⟨rfl,rfl⟩|exact .inr rfl) (by simp [go_sem]) ?_; intro args ha; simp [go_sem] at ha; subst ha; refine ⟨_, _, (aswrite_spec gb g o X (by omega)), (by simp [go_sem]), ?_⟩; rintro ps r hps ⟨g2, rfl, rfl⟩; simp [go_sem]; ((repeat' (first|(refine ag_x ?_;simp [go_sem])|refine adr_nil ?_|((first|refine adr_qs fun Y Yh=>?_|refine adr_y fun Y Yh=>?_);simp [go_sem])|intro _|apply And.intro|(apply Yh;clear Yh Y)));all_goals first|apply Hold.mk|omega|with_reducible assumption|skip))
    have hoX : (o ++ X).length = o.length + X.length := by simp
    (refine awp_sr fun Y Yh => ?_; simp [go_sem]; ((repeat' (first|(refine ag_x ?_;simp [go_sem])|intro _|apply And.intro|(apply Yh;clear Yh Y)));all_goals first|apply Hold.mk|omega|with_reducible assumption|skip))
    refine awp_seq_k fun K7 hK7 => ?_
    (refine awp_sr fun Y Yh => ?_; simp [go_sem]; ((repeat' (first|(refine ag_x ?_;simp [go_sem])|intro _|apply And.intro|(apply Yh;clear Yh Y)));all_goals first|apply Hold.mk|omega|with_reducible assumption|skip))
    (refine awp_if fun T F hT hF => ?_; simp [go_sem]; refine hF ?_; clear hT hF T F)
    refine awp_skip ?_
    refine hK7 _ ?_; clear hK7
    (refine awp_seq ?_; refine awp_ags ?_; simp only [AGs])
    (refine ag_true rfl ?_; simp [go_sem])
    (refine ag_true rfl ?_; simp [go_sem])
    refine ag_invoke 287 317 (by simp [dstOk]) (fun _ _ => by kernel_rfl) ?_
    simp [go_sem]
    have HV := aswrite_spec gb g2 (o ++ X) v (by omega)
    have hoV : (o ++ X ++ v).length = o.length + X.length + v.length := by simp; omega
    have ho3 : (o ++ X ++ v) ++ repV 48 49 v0 v1 (s.drop (i + 2)) = repV 48 49 v0 v1 s := by rw [← ho2]; simp
    generalize o ++ X ++ v = o3 at *
    generalize hoX2 : o ++ X = o2 at *
    (refine callA_l [900060, 900061] (by first|exact .inl ⟨rfl,rfl⟩|exact .inr rfl) (by simp [go_sem]) ?_; intro args ha; simp [go_sem] at ha; subst ha; refine ⟨_, _, HV, (by simp [go_sem]), ?_⟩; rintro ps r hps ⟨g3, rfl, rfl⟩; simp [go_sem]; ((repeat' (first|(refine ag_false ?_ ?_ ?_;(focus (simp [go_sem, undef];done));(focus (simp [go_sem];done));simp [go_sem])|(refine ag_true ?_ ?_;(focus (simp [go_sem, undef];done));simp [go_sem])|(refine ag_x ?_;simp [go_sem, undef])|intro _|apply And.intro|(apply Yh;clear Yh Y)));all_goals first|apply Hold.mk|omega|with_reducible assumption|skip))
    (refine awp_sr fun Y Yh => ?_; simp [go_sem]; ((repeat' (first|(refine ag_x ?_;simp [go_sem])|intro _|apply And.intro|(apply Yh;clear Yh Y)));all_goals first|apply Hold.mk|omega|with_reducible assumption|skip))
    refine awp_seq_k fun K9 hK9 => ?_
    (refine awp_sr fun Y Yh => ?_; simp [go_sem]; ((repeat' (first|(refine ag_x ?_;simp [go_sem])|intro _|apply And.intro|(apply Yh;clear Yh Y)));all_goals first|apply Hold.mk|omega|with_reducible assumption|skip))
    (refine awp_if fun T F hT hF => ?_; simp [go_sem]; refine hF ?_; clear hT hF T F)
    refine awp_skip ?_
    refine hK9 _ ?_; clear hK9
    (refine awp_sr fun Y Yh => ?_; simp [go_sem]; ((repeat' (first|(refine ag_x ?_;simp [go_sem])|intro _|apply And.intro|(apply Yh;clear Yh Y)));all_goals first|apply Hold.mk|omega|with_reducible assumption|skip))
    (refine awp_sr fun Y Yh => ?_; simp [go_sem]; ((repeat' (first|(refine ag_x ?_;simp [go_sem])|intro _|apply And.intro|(apply Yh;clear Yh Y)));all_goals first|apply Hold.mk|omega|with_reducible assumption|skip))
    refine awp_exit ?_
    simp only [go_sem]
    rw [if_pos trivial]
    have h2' : i + 2 ≤ s.length := by simp at h2; omega
    refine ⟨⟨i + 2, i + 2, o3, g3⟩, ?_, ⟨Nat.le_refl _, h2', by simp only; omega, ?_⟩, by simp only; omega⟩
    ·(refine cov_of ?_ ?_ <;> simp [go_sem])
     rw [hoV]; omega
    ·simp only
     rw [Nat.sub_self, List.take_zero, List.append_nil]
     exact ho3
  clear hK4
  have hii : (i : Int) ≤ s.length := by omega
  by_cases hn : i < s.length
  ·have hn1 : (i : Int) < s.length := by omega
   have hn2 : ¬ (i : Int) = s.length := by omega
   have hd0 : s.drop i = s[i] :: s.drop (i + 1) := List.drop_eq_getElem_cons hn
   have skip : s[i] ≠ 126 → wInv v0 v1 s ⟨i + 1, l, o, g⟩ := fun hc =>
    ⟨by simp only; omega, hls, by simp only; omega, by
     simp only
     rw [← ho, hd0, repV_none (lookV_not hc), take_step hli hn]
     simp⟩
   (refine awp_sr fun Y Yh => ?_; simp [go_sem, hn1, hn2, hii]; ((repeat' (first|(refine ag_false ?_ ?_ ?_;(focus (simp [go_sem, undef, hn1, hn2, hii];done));(focus (simp [go_sem];done));simp [go_sem, hn1, hn2, hii])|(refine ag_true ?_ ?_;(focus (simp [go_sem, undef, hn1, hn2, hii];done));simp [go_sem, hn1, hn2, hii])|(refine ag_x ?_;simp [go_sem, undef, hn1, hn2, hii])|intro _|apply And.intro|(apply Yh;clear Yh Y)));all_goals first|apply Hold.mk|omega|with_reducible assumption|skip))
   (refine awp_if fun T F hT hF => ?_; simp [go_sem]; refine hT ?_; clear hT hF T F)
   have hlt : s[i].toNat < 256 := s[i].toNat_lt
   have hlt' : (s[i].toNat : Int) < 256 := by omega
   have hgd := rC_drop (gT0 v0 v1 p0 p1) (dI 3) finB hlt
   have hgd' := mpL_drop finB hlt
   have h48 : (48 : UInt8).toNat = 48 := rfl
   have h49 : (49 : UInt8).toNat = 49 := rfl
   have h126 : (126 : UInt8).toNat = 126 := rfl
   have hp6 : s[i] = 126 → ∀ c, (s.drop i)[0]? = some c → c = 126 := fun hc c q => by
    rw [hd0, hc] at q
    simpa using q.symm
   generalize hcc : s[i] = c at *
   have hd4 : c = 48 ∨ c = 49 ∨ c = 126 ∨ (c ≠ 48 ∧ c ≠ 49 ∧ c ≠ 126) := by
    by_cases q1 : c = 48
    ·exact .inl q1
    ·by_cases q2 : c = 49
     ·exact .inr (.inl q2)
     ·by_cases q3 : c = 126
      ·exact .inr (.inr (.inl q3))
      ·exact .inr (.inr (.inr ⟨q1, q2, q3⟩))
   rcases hd4 with rfl | rfl | rfl | ⟨q1, q2, q3⟩
   ·rw [h48] at hgd hgd'
    rw [fin_48] at hgd hgd'
    ((refine awp_dr (.qs [0, 1, 2, 3, 4, 5, 6, 7, 8, 9] (.nil)) (by kernel_rfl) ?_ ?_ ?_ ?_); (kernel_rfl); (exact (by decide +kernel)); (kernel_rfl); intro Y Yh; ((repeat' (first|(refine ag_x ?_;simp [go_sem, hgd, hgd', h48, hn, hn1, hcc])|refine adr_nil ?_|((first|refine adr_qs fun Y Yh=>?_|refine adr_y fun Y Yh=>?_);simp [go_sem, hgd, hgd', h48, hn, hn1, hcc])|intro _|apply And.intro|(apply Yh;clear Yh Y)));all_goals first|apply Hold.mk|omega|with_reducible assumption|skip))
    (refine awp_seq ?_; refine awp_ags ?_; simp only [AGs])
    (refine ag_true rfl ?_; simp [go_sem])
    (refine ag_true rfl ?_; simp [go_sem])
    (refine ag_true rfl ?_; simp [go_sem])
    (refine ag_true rfl ?_; simp [go_sem])
    (refine ag_true rfl ?_; simp [go_sem])
    (refine ag_true rfl ?_; simp [go_sem])
    (refine ag_true rfl ?_; simp [go_sem])
    (refine ag_true rfl ?_; simp [go_sem])
    (refine ag_true rfl ?_; simp [go_sem])
    (refine ag_true rfl ?_; simp [go_sem])
    (refine ag_true rfl ?_; simp [go_sem])
    (refine ag_true rfl ?_; simp [go_sem])
    (refine ag_true rfl ?_; simp [go_sem])
    (refine ag_true rfl ?_; simp [go_sem])
    (refine ag_true rfl ?_; simp [go_sem])
    (refine ag_nil true rfl (by simp [dstOk]) (by simp) (by first | exact .inl ⟨by kernel_rfl, rfl⟩ | exact .inr ⟨by kernel_rfl, rfl⟩) ?_; simp [go_sem, isNilD, nOp])
    (refine ag_true rfl ?_; simp [go_sem])
    (refine awp_if fun T F hT hF => ?_; simp [go_sem]; refine hT ?_; clear hT hF T F)
    (refine awp_sr fun Y Yh => ?_; simp [go_sem]; ((repeat' (first|(refine ag_x ?_;simp [go_sem])|intro _|apply And.intro|(apply Yh;clear Yh Y)));all_goals first|apply Hold.mk|omega|with_reducible assumption|skip))
    refine awp_exit ?_
    simp only [go_sem]
    rw [if_pos trivial]
    refine ⟨⟨i + 1, l, o, g⟩, ?_, skip (by first | decide | omega), by simp only; omega⟩
    (refine cov_of ?_ ?_ <;> simp [go_sem])
   ·rw [h49] at hgd hgd'
    rw [fin_49] at hgd hgd'
    ((refine awp_dr (.qs [0, 1, 2, 3, 4, 5, 6, 7, 8, 9] (.nil)) (by kernel_rfl) ?_ ?_ ?_ ?_); (kernel_rfl); (exact (by decide +kernel)); (kernel_rfl); intro Y Yh; ((repeat' (first|(refine ag_x ?_;simp [go_sem, hgd, hgd', h49, hn, hn1, hcc])|refine adr_nil ?_|((first|refine adr_qs fun Y Yh=>?_|refine adr_y fun Y Yh=>?_);simp [go_sem, hgd, hgd', h49, hn, hn1, hcc])|intro _|apply And.intro|(apply Yh;clear Yh Y)));all_goals first|apply Hold.mk|omega|with_reducible assumption|skip))
    (refine awp_seq ?_; refine awp_ags ?_; simp only [AGs])
    (refine ag_true rfl ?_; simp [go_sem])
    (refine ag_true rfl ?_; simp [go_sem])
    (refine ag_true rfl ?_; simp [go_sem])
    (refine ag_true rfl ?_; simp [go_sem])
    (refine ag_true rfl ?_; simp [go_sem])
    (refine ag_true rfl ?_; simp [go_sem])
    (refine ag_true rfl ?_; simp [go_sem])
    (refine ag_true rfl ?_; simp [go_sem])
    (refine ag_true rfl ?_; simp [go_sem])
    (refine ag_true rfl ?_; simp [go_sem])
    (refine ag_true rfl ?_; simp [go_sem])
    (refine ag_true rfl ?_; simp [go_sem])
    (refine ag_true rfl ?_; simp [go_sem])
    (refine ag_true rfl ?_; simp [go_sem])
    (refine ag_true rfl ?_; simp [go_sem])
    (refine ag_nil true rfl (by simp [dstOk]) (by simp) (by first | exact .inl ⟨by kernel_rfl, rfl⟩ | exact .inr ⟨by kernel_rfl, rfl⟩) ?_; simp [go_sem, isNilD, nOp])
    (refine ag_true rfl ?_; simp [go_sem])
    (refine awp_if fun T F hT hF => ?_; simp [go_sem]; refine hT ?_; clear hT hF T F)
    (refine awp_sr fun Y Yh => ?_; simp [go_sem]; ((repeat' (first|(refine ag_x ?_;simp [go_sem])|intro _|apply And.intro|(apply Yh;clear Yh Y)));all_goals first|apply Hold.mk|omega|with_reducible assumption|skip))
    refine awp_exit ?_
    simp only [go_sem]
    rw [if_pos trivial]
    refine ⟨⟨i + 1, l, o, g⟩, ?_, skip (by first | decide | omega), by simp only; omega⟩
    (refine cov_of ?_ ?_ <;> simp [go_sem])
   ·rw [h126] at hgd hgd'
    rw [fin_126] at hgd hgd'
    ((refine awp_dr (.qs [0, 1, 2, 3, 4, 5, 6, 7, 8, 9] (.nil)) (by kernel_rfl) ?_ ?_ ?_ ?_); (kernel_rfl); (exact (by decide +kernel)); (kernel_rfl); intro Y Yh; ((repeat' (first|(refine ag_x ?_;simp [go_sem, hgd, hgd', h126, hn, hn1, hcc])|refine adr_nil ?_|((first|refine adr_qs fun Y Yh=>?_|refine adr_y fun Y Yh=>?_);simp [go_sem, hgd, hgd', h126, hn, hn1, hcc])|intro _|apply And.intro|(apply Yh;clear Yh Y)));all_goals first|apply Hold.mk|omega|with_reducible assumption|skip))
    (refine awp_seq ?_; refine awp_ags ?_; simp only [AGs])
    (refine ag_true rfl ?_; simp [go_sem])
    (refine ag_true rfl ?_; simp [go_sem])
    (refine ag_true rfl ?_; simp [go_sem])
    (refine ag_true rfl ?_; simp [go_sem])
    (refine ag_true rfl ?_; simp [go_sem])
    (refine ag_true rfl ?_; simp [go_sem])
    (refine ag_true rfl ?_; simp [go_sem])
    (refine ag_true rfl ?_; simp [go_sem])
    (refine ag_true rfl ?_; simp [go_sem])
    (refine ag_true rfl ?_; simp [go_sem])
    (refine ag_true rfl ?_; simp [go_sem])
    (refine ag_true rfl ?_; simp [go_sem])
    (refine ag_true rfl ?_; simp [go_sem])
    (refine ag_true rfl ?_; simp [go_sem])
    (refine ag_true rfl ?_; simp [go_sem])
    (refine ag_nil false rfl (by simp [dstOk]) (by simp) (by first | exact .inl ⟨by kernel_rfl, rfl⟩ | exact .inr ⟨by kernel_rfl, rfl⟩) ?_; simp [go_sem, isNilD, nOp])
    (refine ag_true rfl ?_; simp [go_sem])
    (refine awp_if fun T F hT hF => ?_; simp [go_sem]; refine hF ?_; clear hT hF T F)
    refine awp_skip ?_
    refine tl4 _ ?_ (hp6 rfl)
    (refine cov_of ?_ ?_ <;> simp [go_sem])
   ·have hf : finB c.toNat = 3 := fin_other (fun q => q1 (UInt8.toNat_inj.1 (by omega))) (fun q => q2 (UInt8.toNat_inj.1 (by omega))) (fun q => q3 (UInt8.toNat_inj.1 (by omega)))
    rw [hf] at hgd hgd'
    ((refine awp_dr (.qs [0, 1, 2, 3, 4, 5, 6, 7, 8, 9] (.nil)) (by kernel_rfl) ?_ ?_ ?_ ?_); (kernel_rfl); (exact (by decide +kernel)); (kernel_rfl); intro Y Yh; ((repeat' (first|(refine ag_x ?_;simp [go_sem, hgd, hgd', hn, hn1, hcc, hlt, hlt'])|refine adr_nil ?_|((first|refine adr_qs fun Y Yh=>?_|refine adr_y fun Y Yh=>?_);simp [go_sem, hgd, hgd', hn, hn1, hcc, hlt, hlt'])|intro _|apply And.intro|(apply Yh;clear Yh Y)));all_goals first|apply Hold.mk|omega|with_reducible assumption|skip))
    (refine awp_sr fun Y Yh => ?_; simp [go_sem]; ((repeat' (first|(refine ag_false ?_ ?_ ?_;(focus (simp [go_sem, undef];done));(focus (simp [go_sem];done));simp [go_sem])|(refine ag_true ?_ ?_;(focus (simp [go_sem, undef];done));simp [go_sem])|(refine ag_x ?_;simp [go_sem, undef])|intro _|apply And.intro|(apply Yh;clear Yh Y)));all_goals first|apply Hold.mk|omega|with_reducible assumption|skip))
    (refine awp_if fun T F hT hF => ?_; simp [go_sem]; refine hT ?_; clear hT hF T F)
    (refine awp_sr fun Y Yh => ?_; simp [go_sem]; ((repeat' (first|(refine ag_x ?_;simp [go_sem])|intro _|apply And.intro|(apply Yh;clear Yh Y)));all_goals first|apply Hold.mk|omega|with_reducible assumption|skip))
    refine awp_exit ?_
    simp only [go_sem]
    rw [if_pos trivial]
    refine ⟨⟨i + 1, l, o, g⟩, ?_, skip q3, by simp only; omega⟩
    (refine cov_of ?_ ?_ <;> simp [go_sem])
  ·have hn2 : (i : Int) = s.length := by omega
   (refine awp_sr fun Y Yh => ?_; simp [go_sem, hn2]; ((repeat' (first|(refine ag_false ?_ ?_ ?_;(focus (simp [go_sem, undef, hn2];done));(focus (simp [go_sem];done));simp [go_sem, hn2])|(refine ag_true ?_ ?_;(focus (simp [go_sem, undef, hn2];done));simp [go_sem, hn2])|(refine ag_x ?_;simp [go_sem, undef, hn2])|intro _|apply And.intro|(apply Yh;clear Yh Y)));all_goals first|apply Hold.mk|omega|with_reducible assumption|skip))
   (refine awp_if fun T F hT hF => ?_; simp [go_sem]; refine hF ?_; clear hT hF T F)
   refine awp_skip ?_
   refine tl4 _ ?_ (fun c q => ?_)
   ·(refine cov_of ?_ ?_ <;> simp [go_sem])
    omega
   ·have : s.drop i = [] := List.drop_eq_nil_of_le (by omega)
    rw [this] at q
    simp at q
 ·(refine awp_if fun T F hT hF => ?_; simp [go_sem, hi]; refine hF ?_; clear hT hF T F)
  refine awp_exit ?_
  simp only [go_sem]
  refine hK1 _ ?_; clear hK1
  have hi2 : i = s.length + 1 := by omega
  have hlt : s.length - l + l = s.length := by omega
  have hfin : o ++ s.drop l = repV 48 49 v0 v1 s := by
   rw [← ho, List.drop_eq_nil_of_le (show s.length ≤ i by omega), List.take_of_length_le (by simp; omega)]
   simp [repV]
  have hll : (l : Int) ≤ s.length := by omega
  generalize repV 48 49 v0 v1 s = R at *
  refine awp_seq_k fun K13 hK13 => ?_
  (refine awp_sr fun Y Yh => ?_; simp [go_sem]; ((repeat' (first|(refine ag_x ?_;simp [go_sem])|intro _|apply And.intro|(apply Yh;clear Yh Y)));all_goals first|apply Hold.mk|omega|with_reducible assumption|skip))
  by_cases h14 : l = s.length
  ·subst h14
   have : s.drop s.length = [] := List.drop_eq_nil_of_le (Nat.le_refl _)
   rw [this, List.append_nil] at hfin
   (refine awp_if fun T F hT hF => ?_; simp [go_sem]; refine hF ?_; clear hT hF T F)
   refine awp_skip ?_
   refine hK13 _ ?_; clear hK13
   (refine awp_ret ?_; simp [go_sem, retA, hfin])
  ·have h14' : ¬ (l : Int) = s.length := by omega
   have hdl : (s.drop l).length ≤ 1000000 := by simp; omega
   (refine awp_if fun T F hT hF => ?_; simp [go_sem, h14]; refine hT ?_; clear hT hF T F)
   ((refine awp_dr (.qs [0, 1, 2, 3] (.one 4 (.one 5 (.qs [6] (.one 7 (.qs [8, 9, 10, 11, 12] .nil)))))) (by kernel_rfl) ?_ ?_ ?_ ?_); (kernel_rfl); (exact (by decide +kernel)); (kernel_rfl); intro Y Yh; ((repeat' (first|refine adr_nil ?_|((first|refine adr_qs fun Y Yh=>?_|refine adr_y fun Y Yh=>?_);simp [go_sem, hll, hls, ba_end])|apply And.intro|(apply Yh;clear Yh Y)));all_goals first|apply Hold.mk|omega|with_reducible assumption|skip))
   refine ag_mkimeth (by simp [dstOk]) ?_
   simp [go_sem]
   intro u0
   ((repeat' (first|refine adr_nil ?_|((first|refine adr_qs fun Y Yh=>?_|refine adr_y fun Y Yh=>?_);simp [go_sem])|apply And.intro|(apply Yh;clear Yh Y)));all_goals first|apply Hold.mk|omega|with_reducible assumption|skip)
   refine ag_nilmeth (name := "WriteString") (t := 317) (by simp [dstOk]) (fun _ _ => by kernel_rfl) ?_
   simp [go_sem]
   ((repeat' (first|refine adr_nil ?_|((first|refine adr_qs fun Y Yh=>?_|refine adr_y fun Y Yh=>?_);simp [go_sem])|apply And.intro|(apply Yh;clear Yh Y)));all_goals first|apply Hold.mk|omega|with_reducible assumption|skip)
   refine ag_invoke 287 317 (by simp [dstOk]) (fun _ _ => by kernel_rfl) ?_
   simp [go_sem]
   have HA := aswrite_spec gb g o (s.drop l) (by omega)
   rw [hfin] at HA
   generalize hdX : s.drop l = X at *
   (refine callA_l [900060, 900061] (by first|exact .inl ⟨rfl,rfl⟩|exact .inr rfl) (by simp [go_sem]) ?_; intro args ha; simp [go_sem] at ha; subst ha; refine ⟨_, _, HA, (by simp [go_sem]), ?_⟩; rintro ps r hps ⟨g2, rfl, rfl⟩; simp [go_sem]; ((repeat' (first|(refine ag_x ?_;simp [go_sem])|refine adr_nil ?_|((first|refine adr_qs fun Y Yh=>?_|refine adr_y fun Y Yh=>?_);simp [go_sem])|intro _|apply And.intro|(apply Yh;clear Yh Y)));all_goals first|apply Hold.mk|omega|with_reducible assumption|skip))
   (refine awp_r fun Y Yh => ?_; simp [go_sem]; ((repeat' (first|(refine ag_x ?_;simp [go_sem])|intro _|apply And.intro|(apply Yh;clear Yh Y)));all_goals first|apply Hold.mk|omega|with_reducible assumption|skip))
   refine hK13 _ ?_; clear hK13
   (refine awp_ret ?_; simp [go_sem, retA])
@[go_sem] theorem st316 : Go.Eng.strOf Tryz.prog 316 9 = true := by kernel_rfl
set_option maxHeartbeats 8000000 in
theorem grep_spec (v0 v1 : Bs) (p0 p1 : Int) (h0 : 0 < p0) (h1 : 0 < p1) (hv0 : v0.length ≤ 2) (hv1 : v1.length ≤ 2) (s : Bs) (hl : s.length ≤ 1000000) : PCall Tryz.prog 277 [.rd (gT v0 v1 p0 p1), dS s] fun r => r = dS (repV 48 49 v0 v1 s) := by 
 refine pcall_of Tryz.func277 rfl rfl Tryz.ntmps277 (rs := [.tmp 4]) (tys := [9]) rfl rfl (by simp) ?_
 have HW := fun gb g => wstr_spec gb g v0 v1 p0 p1 h0 h1 hv0 hv1 s hl
 generalize gT v0 v1 p0 p1 = G at *
 have hrl := repV_len 48 49 v0 v1 hv0 hv1 s.length s (Nat.le_refl _)
 generalize repV 48 49 v0 v1 s = o at *
 (refine awp_sr fun Y Yh => ?_; simp [go_sem]; ((repeat' (first|(refine ag_x ?_;simp [go_sem])|intro _|apply And.intro|(apply Yh;clear Yh Y)));all_goals first|apply Hold.mk|omega|with_reducible assumption|skip))
 (refine awp_sr fun Y Yh => ?_; simp [go_sem]; ((repeat' (first|(refine ag_x ?_;simp [go_sem])|intro _|apply And.intro|(apply Yh;clear Yh Y)));all_goals first|apply Hold.mk|omega|with_reducible assumption|skip))
 refine awp_renbox 5 900060 rfl rfl (by decide) fun gb => ?_
 simp only [go_sem]
 refine awp_renrb 8 900061 900060 0 rfl rfl (by decide) (by decide) rfl (by decide) fun g0 => ?_
 simp only [go_sem, List.set]
 (refine awp_seq ?_; refine awp_ags ?_; simp only [AGs])
 (refine ag_true rfl ?_; simp [go_sem])
 refine ag_mkifc (by simp [dstOk]) (by kernel_rfl) ?_
 simp [go_sem]
 (refine ag_true rfl ?_; simp [go_sem])
 (refine ag_true rfl ?_; simp [go_sem])
 have hb : bytesR [] = [] := rfl
 (refine callA_l [900060, 900061] (by first|exact .inl ⟨rfl,rfl⟩|exact .inr rfl) (by simp [go_sem]) ?_; intro args ha; simp [go_sem] at ha; subst ha; refine ⟨_, _, (HW gb g0), (by simp [go_sem, hb]), ?_⟩; rintro ps r hps ⟨g1, n, rfl, rfl⟩; simp [go_sem, hb]; ((repeat' (first|(refine ag_x ?_;simp [go_sem, hb])|intro _|apply And.intro|(apply Yh;clear Yh Y)));all_goals first|apply Hold.mk|omega|with_reducible assumption|skip))
 (refine awp_sr fun Y Yh => ?_; simp [go_sem, bytesR]; ((repeat' (first|(refine ag_x ?_;simp [go_sem, bytesR])|intro _|apply And.intro|(apply Yh;clear Yh Y)));all_goals first|apply Hold.mk|omega|with_reducible assumption|skip))
 (refine awp_ret ?_; simp [go_sem])
set_option maxHeartbeats 8000000 in
theorem repl_spec (g : Nat) (a b : UInt8) (va vb : Bs) (i j : Nat) (hab : abOk a b i j) (hva : va.length ≤ 2) (hvb : vb.length ≤ 2) (s : Bs) (hl : s.length ≤ 1000000) : ACall Tryz.prog 55 [.ptr 900010 g 0, dS s] [(900010, (g, bxR 0 0 (.int .u32 0) (.v .nilIface) (onD a b va vb)))] [900010] fun ps r =>
  (∃ x, ps = [(g, x)]) ∧ r = dS (repV a b va vb s) := by 
 have HG : PCall Tryz.prog 277 [gRd i j va vb, dS s] fun r => r = dS (repV a b va vb s) := by
  rcases hab with ⟨rfl, rfl, rfl, rfl⟩ | ⟨rfl, rfl, rfl, rfl⟩
  ·exact grep_spec va vb 4 2 (by decide) (by decide) hva hvb s hl
  ·rw [repV_swap 49 48 va vb (by decide) s.length s (Nat.le_refl _)]
   exact grep_spec vb va 2 4 (by decide) (by decide) hvb hva s hl
 have HO := once_spec g (.int .u32 0) a b va vb i j hab
 simp only [gRd] at HG HO
 generalize gC i j va vb = G at *
 generalize repV a b va vb s = o at *
 refine acall_of Tryz.func55 rfl rfl Tryz.ntmps55 (rs := [.tmp 4]) (tys := [9]) rfl rfl (by simp) (by simp [notFroz]) ?_
 (refine awp_sr fun Y Yh => ?_; simp [go_sem]; ((repeat' (first|(refine ag_x ?_;simp [go_sem])|intro _|apply And.intro|(apply Yh;clear Yh Y)));all_goals first|apply Hold.mk|omega|with_reducible assumption|skip))
 (refine awp_seq ?_; refine awp_ags ?_; simp only [AGs])
 (refine ag_true rfl ?_; simp [go_sem])
 (refine ag_true rfl ?_; simp [go_sem])
 (refine ag_true rfl ?_; simp [go_sem])
 (refine ag_true rfl ?_; simp [go_sem])
 refine ag_mkmethod (by simp [dstOk]) ?_
 simp [go_sem]
 (refine ag_true rfl ?_; simp [go_sem])
 (refine callA_l [900010] (by first|exact .inl ⟨rfl,rfl⟩|exact .inr rfl) (by simp [go_sem]) ?_; intro args ha; simp [go_sem] at ha; subst ha; refine ⟨_, _, HO, (by simp [go_sem]), ?_⟩; rintro ps r hps ⟨rfl, rfl⟩; simp [go_sem]; ((repeat' (first|(refine ag_x ?_;simp [go_sem])|intro _|apply And.intro|(apply Yh;clear Yh Y)));all_goals first|apply Hold.mk|omega|with_reducible assumption|skip))
 (refine awp_seq ?_; refine awp_ags ?_; simp only [AGs])
 (refine ag_true rfl ?_; simp [go_sem])
 (refine ag_true rfl ?_; simp [go_sem])
 (refine ag_true rfl ?_; simp [go_sem])
 (refine ag_true rfl ?_; simp [go_sem])
 (refine ag_true rfl ?_; simp [go_sem])
 refine ag_invoke 277 235 (by simp [dstOk]) (fun _ _ => by kernel_rfl) ?_
 simp [go_sem]
 refine CallT.toA ?_
 refine callT_m (.inl ⟨rfl, rfl⟩) (by simp [go_sem]) ?_
 intro args ha
 simp [go_sem] at ha
 subst ha
 refine ⟨_, HG, ?_⟩
 rintro _ rfl
 simp [go_sem]
 (refine ag_true rfl ?_; simp [go_sem])
 (refine awp_ret ?_; simp [go_sem])
end Go.Proofs.YtkgmecjaejaehaaGreatDoor
namespace Go.Proofs.YtkgmecjaejaehaaGreatDoor
open Go.Eng Go.Js Go.RowKit Go.Sort
set_option maxRecDepth 20000
attribute [local irreducible] AG CallA CallT AWp PCall ACall XCall AgC
theorem splitB_eq (s p : List UInt8) : (Lib.splitB ⟨p.toArray⟩ 0 (Lib.countB ⟨s.toArray⟩ ⟨p.toArray⟩) ⟨s.toArray⟩).map (·.data.toList) = Lib.split s p := by
 rw [Lib.splitB_data]; rfl
theorem split_new (nm : Nat) (s : Bs) (h9 : 900000 ≤ nm) (hl : s.length < 4294967281) : ACall Tryz.prog 151 [dS s, dS [47]] [] [nm] fun ps r => ∃ g, ps = [(g, rS (cutV s))] ∧ r = .own nm g := by
 rw [show rS (cutV s) = .row 9 1 (((cutV s).map encStr).map fun x => [D.v x]) from by simp [encS]]
 refine acall_new ⟨_, Tryz.func151, rfl, rfl⟩ h9 (enc_one _) fun C w us hc hg hr => ?_
 have hg : glOk w := hg
 obtain rfl := repL_v (us := [.string ⟨s.toArray⟩, .string ⟨#[47]⟩]) hr
 obtain ⟨m, hm⟩ := hg.2
 refine (Tryz.strings_Split ⟨s.toArray⟩ ⟨#[47]⟩ m w (by simpa [ByteArray.size] using hl) hm (by simp [ByteArray.size])).mono ?_
 rintro e w' ⟨rfl, rfl⟩
 have e1 := splitB_eq s [47]
 have hall := Lib.splitB_all ⟨#[47]⟩ (by simp [ByteArray.size]) 0 _ ⟨s.toArray⟩ rfl
 have hle := Lib.countB_le ⟨#[47]⟩ (by simp [ByteArray.size]) _ ⟨s.toArray⟩ (Nat.le_refl _)
 have hsz : (⟨s.toArray⟩ : ByteArray).size = s.length := by simp [ByteArray.size]
 change (List.map _ (Lib.splitB ⟨#[47]⟩ 0 (Lib.countB ⟨s.toArray⟩ ⟨#[47]⟩) ⟨s.toArray⟩)) = _ at e1
 generalize hL : Lib.splitB ⟨#[47]⟩ 0 (Lib.countB ⟨s.toArray⟩ ⟨#[47]⟩) ⟨s.toArray⟩ = L at *
 generalize hN : Lib.countB ⟨s.toArray⟩ ⟨#[47]⟩ = N at *
 have e4 : (cutV s).map encStr = L.map Value.string := by
  rw [← split_cut, ← e1]; simp [encS]
 rw [e4]
 refine ⟨_, rfl, rfl, ⟨?_, .inr ⟨w.heap.size, N + 1, (L.map Value.string).toArray, ?_, Nat.le_refl _, ?_, ?_, ?_, ?_, ?_⟩⟩, ⟨rfl, rfl, rfl, by simp, fun k hk => Below.heap_alloc w _ k hk⟩⟩
 ·simp
 ·simp [hall]
 ·show (w.heap.push _)[w.heap.size]? = some _
  exact Array.getElem?_push_size
 ·simp [hall]
 ·simp only [maxLen]; omega
 ·simp [hall]
 ·exact List.take_of_length_le (by simp)
theorem has_spec (s : Bs) (c : UInt8) : PCall Tryz.prog 152 [dS s, dS [c]] fun r => r = dB (s.contains c) := by
 refine pcall_below ⟨_, Tryz.func152, rfl, rfl⟩ fun C w us hc' hg hr => ?_
 obtain rfl := repL_v (us := [.string ⟨s.toArray⟩, .string ⟨[c].toArray⟩]) hr
 refine (Tryz.strings_Contains_one ⟨s.toArray⟩ c w).mono ?_
 rintro e w' ⟨rfl, rfl⟩
 exact ⟨_, _, rfl, by rw [Lib.contains_iff_indexByte], .v _, Below.refl _ _⟩
end Go.Proofs.YtkgmecjaejaehaaGreatDoor
namespace Go.Proofs.YtkgmecjaejaehaaGreatDoor
open Go.Eng Go.Js
set_option maxRecDepth 20000
attribute [local irreducible] AG CallA CallT AWp PCall ACall XCall AgC
def tokR : Option (List Bs) → D
 | none => .tup [dSs [], dB false]
 | some l => .tup [dSs l, dB true]
def mixV (L : List Bs) (i : Nat) : List Bs := (L.take i).map tokT ++ L.drop i
theorem mixV_len (L : List Bs) {i : Nat} (h : i ≤ L.length) : (mixV L i).length = L.length := by simp [mixV]; omega
theorem mixV_get (L : List Bs) {i : Nat} (h : i < L.length) : ((mixV L i).map cS)[i]? = some (cS L[i]) := by
 unfold mixV
 rw [List.map_append, List.getElem?_append_right (by simp; omega)]
 simp only [List.length_map, List.length_take]
 rw [show i - min i L.length = 0 by omega]
 simp [List.getElem?_drop, h]
theorem mixV_set (L : List Bs) {i : Nat} (h : i < L.length) : ((mixV L i).map cS).set i (cS (tokT L[i])) = (mixV L (i + 1)).map cS := by
 unfold mixV
 rw [List.map_append, List.map_append, List.set_append_right _ _ (by simp; omega)]
 simp only [List.length_map, List.length_take]
 rw [show i - min i L.length = 0 by omega, List.drop_eq_getElem_cons h, List.map_cons, List.set_cons_zero, List.take_succ_eq_append_getElem h, List.map_append, List.map_append]
 simp only [List.map_cons, List.map_nil, List.append_assoc, List.cons_append, List.nil_append]
theorem mixV_all (L : List Bs) : mixV L L.length = L.map tokT := by simp [mixV]
theorem mixV_0 (L : List Bs) : mixV L 0 = L := by simp [mixV]
set_option maxHeartbeats 16000000 in
theorem tokens_spec (p : Bs) (hp : p.length ≤ 1000000) : PCall Tryz.prog 104 [dS p] fun r => r = tokR (toksV p) := by 
 refine pcall_of Tryz.func104 rfl rfl Tryz.ntmps104 (rs := [.tmp 2, .tmp 3]) (tys := [23, 4]) rfl rfl (by simp) ?_
 (refine awp_sr fun Y Yh => ?_; simp [go_sem]; ((repeat' (first|(refine ag_x ?_;simp [go_sem])|intro _|apply And.intro|(apply Yh;clear Yh Y)));all_goals first|apply Hold.mk|omega|with_reducible assumption|skip))
 refine awp_seq_k fun K1 hK1 => ?_
 (refine awp_sr fun Y Yh => ?_; simp [go_sem]; ((repeat' (first|(refine ag_x ?_;simp [go_sem])|intro _|apply And.intro|(apply Yh;clear Yh Y)));all_goals first|apply Hold.mk|omega|with_reducible assumption|skip))
 match p, hp with
 | [], _ =>
  (refine awp_if fun T F hT hF => ?_; simp [go_sem]; refine hT ?_; clear hT hF T F)
  (refine awp_sr fun Y Yh => ?_; simp [go_sem]; ((repeat' (first|(refine ag_x ?_;simp [go_sem])|intro _|apply And.intro|(apply Yh;clear Yh Y)));all_goals first|apply Hold.mk|omega|with_reducible assumption|skip))
  refine awp_nilsl 2 1 rfl ?_
  (refine awp_ret ?_; simp [go_sem, tokR, toksV])
 | c :: s, hp =>
  (refine awp_if fun T F hT hF => ?_; simp [go_sem]; refine hF ?_; clear hT hF T F)
  refine awp_skip ?_
  refine hK1 _ ?_; clear hK1
  refine awp_seq_k fun K2 hK2 => ?_
  (refine awp_sr fun Y Yh => ?_; simp [go_sem]; ((repeat' (first|(refine ag_x ?_;simp [go_sem])|intro _|apply And.intro|(apply Yh;clear Yh Y)));all_goals first|apply Hold.mk|omega|with_reducible assumption|skip))
  have hs : s.length ≤ 1000000 := by simp at hp; omega
  by_cases hc : c = 47
  ·subst hc
   (refine awp_if fun T F hT hF => ?_; simp [go_sem]; refine hF ?_; clear hT hF T F)
   refine awp_skip ?_
   refine hK2 _ ?_; clear hK2
   have htok : toksV (47 :: s) = if (cutV s).all okTok then some ((cutV s).map tokT) else none := by simp [toksV]
   have hcl := cutV_len s
   have hce := cutV_each s
   have HS := split_new 900050 s (by decide) (by omega)
   rw [htok]
   clear htok
   generalize cutV s = L at *
   have he : (ByteArray.mk (47 :: s).toArray).extract 1 (s.length + 1) = ⟨s.toArray⟩ := by rw [ba_cut]; simp
   (refine awp_sr fun Y Yh => ?_; simp [go_sem, he]; ((repeat' (first|(refine ag_x ?_;simp [go_sem, he])|intro _|apply And.intro|(apply Yh;clear Yh Y)));all_goals first|apply Hold.mk|omega|with_reducible assumption|skip))
   (refine callA_l [900050] (by first|exact .inl ⟨rfl,rfl⟩|exact .inr rfl) (by simp [go_sem]) ?_; intro args ha; simp [go_sem] at ha; subst ha; refine ⟨_, _, HS, (by simp [go_sem]), ?_⟩; rintro ps r hps ⟨gl, rfl, rfl⟩; simp [go_sem]; ((repeat' (first|(refine ag_x ?_;simp [go_sem])|intro _|apply And.intro|(apply Yh;clear Yh Y)));all_goals first|apply Hold.mk|omega|with_reducible assumption|skip))
   refine awp_seq_k fun K3 hK3 => ?_
   (refine awp_sr fun Y Yh => ?_; simp [go_sem]; ((repeat' (first|(refine ag_x ?_;simp [go_sem])|intro _|apply And.intro|(apply Yh;clear Yh Y)));all_goals first|apply Hold.mk|omega|with_reducible assumption|skip))
   refine awp_block ?_
   refine awp_loop (σ := Nat) (fun i => ⟨[(4, .own 900050 gl), (15, .own 900050 gl), (16, dI L.length), (17, dI i)], [(900050, (gl, .row 9 1 ((mixV L i).map cS)))]⟩) (fun i => i ≤ L.length ∧ (L.take i).all okTok = true) (fun i => L.length - i) 0 ?_ (by simp) ?_
   ·rw [mixV_0]
    (refine cov_of ?_ ?_ <;> simp [go_sem])
   rintro i ⟨hi, hall⟩
   (refine awp_sr fun Y Yh => ?_; simp [go_sem]; ((repeat' (first|(refine ag_x ?_;simp [go_sem])|intro _|apply And.intro|(apply Yh;clear Yh Y)));all_goals first|apply Hold.mk|omega|with_reducible assumption|skip))
   refine awp_seq_k fun K4 hK4 => ?_
   by_cases h : i < L.length
   ·(refine awp_if fun T F hT hF => ?_; simp [go_sem, h]; refine hT ?_; clear hT hF T F)
    refine awp_skip ?_
    refine hK4 _ ?_; clear hK4
    have hg := mixV_get L h
    have hst := mixV_set L h
    have hlen : ((mixV L i).map cS).length = L.length := by rw [List.length_map]; exact mixV_len L hi
    obtain ⟨hC, hg2⟩ := List.getElem?_eq_some_iff.1 hg
    have htl : (L[i]).length ≤ 1000000 := by have := hce L[i] (List.getElem_mem h); omega
    have hok : (L.take (i + 1)).all okTok = okTok L[i] := by
     rw [List.take_succ_eq_append_getElem h, List.all_append, hall]; simp
    have hno : okTok L[i] = false → L.all okTok = false := fun hf => by
     rw [Bool.eq_false_iff]
     intro q
     rw [List.all_eq_true] at q
     rw [q _ (List.getElem_mem h)] at hf
     cases hf
    generalize hR : (mixV L i).map cS = R at *
    generalize hR2 : (mixV L (i + 1)).map cS = R2 at *
    have HA := fun g => repl_spec g 48 49 [] [] 0 1 (.inl ⟨rfl, rfl, rfl, rfl⟩) (by simp) (by simp) L[i] htl
    have HB := fun g => repl_spec g 49 48 [47] [126] 1 0 (.inr ⟨rfl, rfl, rfl, rfl⟩) (by simp) (by simp) L[i] htl
    change ∀ g, ACall Tryz.prog 55 _ _ _ (fun ps r => (∃ x, ps = [(g, x)]) ∧ r = dS (tokT L[i])) at HB
    have HC := has_spec (repV 48 49 [] [] L[i]) 126
    have hk : (repV 48 49 [] [] L[i]).contains 126 = !okTok L[i] := by simp [okTok]
    rw [hk] at HC
    clear hk
    generalize repV 48 49 [] [] L[i] = o at *
    generalize okTok L[i] = ok at *
    generalize tokT L[i] = tt at *
    generalize hti : L[i] = ti at *
    refine awp_seq_k fun K5 hK5 => ?_
    have tl5 : ∀ S', Cov S' ⟨[(4, .own 900050 gl), (15, .own 900050 gl), (16, dI L.length), (17, dI i)], [(900050, (gl, .row 9 1 R2))]⟩ → ok = true → K5 S' := fun S' hS hk => by
     refine hK5 _ ?_; clear hK5
     refine awp_cov hS ?_; clear hS
     (refine awp_r fun Y Yh => ?_; simp [go_sem]; ((repeat' (first|(refine ag_x ?_;simp [go_sem])|intro _|apply And.intro|(apply Yh;clear Yh Y)));all_goals first|apply Hold.mk|omega|with_reducible assumption|skip))
     refine ⟨i + 1, ?_, ⟨by omega, by rw [hok, hk]⟩, by omega⟩
     subst hR2
     (refine cov_of ?_ ?_ <;> simp [go_sem])
    clear hK5
    refine awp_block ?_
    (refine awp_sr fun Y Yh => ?_; simp [go_sem, hg, hlen]; ((repeat' (first|(refine ag_x ?_;simp [go_sem, hg, hlen])|intro _|apply And.intro|(apply Yh;clear Yh Y)));all_goals first|apply Hold.mk|omega|with_reducible assumption|skip))
    refine awp_seq_k fun K6 hK6 => ?_
    have tl6 : ∀ S', Cov S' ⟨[(4, .own 900050 gl), (5, dI i), (6, dS ti), (15, .own 900050 gl), (16, dI L.length), (17, dI i)], [(900050, (gl, .row 9 1 R))]⟩ → ok = true → K6 S' := fun S' hS hk => by
     refine hK6 _ ?_; clear hK6
     refine awp_cov hS ?_; clear hS
     (refine awp_r fun Y Yh => ?_; simp [go_sem]; ((repeat' (first|(refine ag_x ?_;simp [go_sem])|intro _|apply And.intro|(apply Yh;clear Yh Y)));all_goals first|apply Hold.mk|omega|with_reducible assumption|skip))
     refine callA_frz 29 rfl ?_
     (refine callA_l [900010] (by first|exact .inl ⟨rfl,rfl⟩|exact .inr rfl) (by simp [go_sem]) ?_; intro args ha; simp [go_sem] at ha; subst ha; refine ⟨_, _, (newr_spec 49 48 [47] [126]), (by simp [go_sem]), ?_⟩; rintro ps r hps ⟨gx, rfl, rfl⟩; simp [go_sem]; ((repeat' (first|(refine ag_x ?_;simp [go_sem])|intro _|apply And.intro|(apply Yh;clear Yh Y)));all_goals first|apply Hold.mk|omega|with_reducible assumption|skip))
     (refine callA_l [900010] (by first|exact .inl ⟨rfl,rfl⟩|exact .inr rfl) (by simp [go_sem]) ?_; intro args ha; simp [go_sem] at ha; subst ha; refine ⟨_, _, (HB gx), (by simp [go_sem, hg, hst, hlen]), ?_⟩; rintro ps r hps ⟨⟨x, rfl⟩, rfl⟩; simp [go_sem, hg, hst, hlen]; ((repeat' (first|(refine ag_x ?_;simp [go_sem, hg, hst, hlen])|intro _|apply And.intro|(apply Yh;clear Yh Y)));all_goals first|apply Hold.mk|omega|with_reducible assumption|skip))
     refine tl5 _ ?_ hk
     (refine cov_of ?_ ?_ <;> simp [go_sem])
    clear hK6
    (refine awp_sr fun Y Yh => ?_; simp [go_sem]; ((repeat' (first|(refine ag_x ?_;simp [go_sem])|intro _|apply And.intro|(apply Yh;clear Yh Y)));all_goals first|apply Hold.mk|omega|with_reducible assumption|skip))
    refine callA_frz 22 rfl ?_
    (refine callA_l [900010] (by first|exact .inl ⟨rfl,rfl⟩|exact .inr rfl) (by simp [go_sem]) ?_; intro args ha; simp [go_sem] at ha; subst ha; refine ⟨_, _, (newr_spec 48 49 [] []), (by simp [go_sem]), ?_⟩; rintro ps r hps ⟨gx, rfl, rfl⟩; simp [go_sem]; ((repeat' (first|(refine ag_x ?_;simp [go_sem])|intro _|apply And.intro|(apply Yh;clear Yh Y)));all_goals first|apply Hold.mk|omega|with_reducible assumption|skip))
    (refine callA_l [900010] (by first|exact .inl ⟨rfl,rfl⟩|exact .inr rfl) (by simp [go_sem]) ?_; intro args ha; simp [go_sem] at ha; subst ha; refine ⟨_, _, (HA gx), (by simp [go_sem]), ?_⟩; rintro ps r hps ⟨⟨x, rfl⟩, rfl⟩; simp [go_sem]; ((repeat' (first|(refine ag_x ?_;simp [go_sem])|intro _|apply And.intro|(apply Yh;clear Yh Y)));all_goals first|apply Hold.mk|omega|with_reducible assumption|skip))
    ((try refine CallT.toA ?_); refine callT_m (by first|exact .inl ⟨rfl,rfl⟩|exact .inr rfl) (by simp [go_sem]) ?_; intro args ha; simp [go_sem] at ha; subst ha; refine ⟨_, HC, ?_⟩; rintro _ rfl; simp [go_sem]; ((repeat' (first|(refine ag_x ?_;simp [go_sem])|intro _|apply And.intro|(apply Yh;clear Yh Y)));all_goals first|apply Hold.mk|omega|with_reducible assumption|skip))
    cases ok with
    | false =>
     (refine awp_if fun T F hT hF => ?_; simp [go_sem]; refine hT ?_; clear hT hF T F)
     (refine awp_sr fun Y Yh => ?_; simp [go_sem]; ((repeat' (first|(refine ag_x ?_;simp [go_sem])|intro _|apply And.intro|(apply Yh;clear Yh Y)));all_goals first|apply Hold.mk|omega|with_reducible assumption|skip))
     refine awp_nilsl 2 1 rfl ?_
     rw [hno rfl]
     (refine awp_ret ?_; simp [go_sem, tokR])
    | true =>
     (refine awp_if fun T F hT hF => ?_; simp [go_sem]; refine hF ?_; clear hT hF T F)
     refine awp_skip ?_
     refine tl6 _ ?_ rfl
     (refine cov_of ?_ ?_ <;> simp [go_sem])
   ·(refine awp_if fun T F hT hF => ?_; simp [go_sem, h]; refine hF ?_; clear hT hF T F)
    refine awp_exit ?_
    simp only [go_sem]
    refine hK3 _ ?_; clear hK3
    obtain rfl : i = L.length := by omega
    rw [List.take_length] at hall
    rw [hall, mixV_all]
    (refine awp_sr fun Y Yh => ?_; simp [go_sem]; ((repeat' (first|(refine ag_x ?_;simp [go_sem])|intro _|apply And.intro|(apply Yh;clear Yh Y)));all_goals first|apply Hold.mk|omega|with_reducible assumption|skip))
    (refine awp_ret ?_; simp [go_sem, tokR])
  ·have hcn : ¬ (c.toNat : Int) = 47 := fun q => hc (UInt8.toNat_inj.1 (by have : (47 : UInt8).toNat = 47 := rfl; omega))
   (refine awp_if fun T F hT hF => ?_; simp [go_sem, hc, hcn]; refine hT ?_; clear hT hF T F)
   (refine awp_sr fun Y Yh => ?_; simp [go_sem]; ((repeat' (first|(refine ag_x ?_;simp [go_sem])|intro _|apply And.intro|(apply Yh;clear Yh Y)));all_goals first|apply Hold.mk|omega|with_reducible assumption|skip))
   refine awp_nilsl 2 1 rfl ?_
   (refine awp_ret ?_; simp [go_sem, tokR, toksV, hc])
def askV (l : List JV) (p : Bs) : List Bs × Int :=
 if l.all okV = false then ([], 1) else
 match toksV p with
 | none => ([], 4)
 | some t => (t, 0)
set_option maxHeartbeats 16000000 in
theorem asked_spec (p : Bs) (hp : p.length ≤ 1000000) (l : List JV) (h1 : ∀ v ∈ l, sizeJ v ≤ 1000000) (h2 : ∀ v ∈ l, longJ v ≤ 4611686018427387904) (hl : l.length ≤ 1000) :
  PCall Tryz.prog 56 [dS p, .sl 4 (l.map cJ)] fun r => r = .tup [dSs (askV l p).1, dI (askV l p).2] := by 
 refine pcall_of Tryz.func56 rfl rfl Tryz.ntmps56 (rs := [.tmp 4, .tmp 5]) (tys := [23, 27]) rfl rfl (by simp) ?_
 have HT := tokens_spec p hp
 (refine awp_sr fun Y Yh => ?_; simp [go_sem]; ((repeat' (first|(refine ag_x ?_;simp [go_sem])|intro _|apply And.intro|(apply Yh;clear Yh Y)));all_goals first|apply Hold.mk|omega|with_reducible assumption|skip))
 refine awp_seq_k fun K1 hK1 => ?_
 (refine awp_sr fun Y Yh => ?_; simp [go_sem]; ((repeat' (first|(refine ag_x ?_;simp [go_sem])|intro _|apply And.intro|(apply Yh;clear Yh Y)));all_goals first|apply Hold.mk|omega|with_reducible assumption|skip))
 refine awp_block ?_
 refine awp_loop (σ := Nat) (fun i => ⟨[(0, dS p), (4, nS), (5, dI 0), (11, .sl 4 (l.map cJ)), (12, dI l.length), (13, dI i)], []⟩) (fun i => i ≤ l.length ∧ (l.take i).all okV = true) (fun i => l.length - i) 0 ?_ (by simp) ?_
 ·(refine cov_of ?_ ?_ <;> simp [go_sem])
 rintro i ⟨hi, hall⟩
 (refine awp_sr fun Y Yh => ?_; simp [go_sem]; ((repeat' (first|(refine ag_x ?_;simp [go_sem])|intro _|apply And.intro|(apply Yh;clear Yh Y)));all_goals first|apply Hold.mk|omega|with_reducible assumption|skip))
 refine awp_seq_k fun K2 hK2 => ?_
 by_cases h : i < l.length
 ·(refine awp_if fun T F hT hF => ?_; simp [go_sem, h]; refine hT ?_; clear hT hF T F)
  refine awp_skip ?_
  refine hK2 _ ?_; clear hK2
  have HC := check_spec l[i] (h1 _ (List.getElem_mem h)) (h2 _ (List.getElem_mem h))
  have hok : (l.take (i + 1)).all okV = okV l[i] := by
   rw [List.take_succ_eq_append_getElem h, List.all_append, hall]; simp
  have hno : okV l[i] = false → l.all okV = false := fun hf => by
   rw [Bool.eq_false_iff]
   intro q
   rw [List.all_eq_true] at q
   rw [q _ (List.getElem_mem h)] at hf
   cases hf
  generalize okV l[i] = ok at *
  obtain ⟨k, t, ns, xs, hx⟩ : ∃ k t ns xs, l[i] = .mk k t ns xs := by
   cases h : l[i] with
   | mk k' t' ns' xs' => exact ⟨_, _, _, _, rfl⟩
  rw [hx, dJ_mk] at HC
  refine awp_seq_k fun K3 hK3 => ?_
  refine awp_block ?_
  (refine awp_sr fun Y Yh => ?_; simp [go_sem, h, hx, cJ_mk]; ((repeat' (first|(refine ag_x ?_;simp [go_sem, h, hx, cJ_mk])|intro _|apply And.intro|(apply Yh;clear Yh Y)));all_goals first|apply Hold.mk|omega|with_reducible assumption|skip))
  (refine awp_sr fun Y Yh => ?_; simp [go_sem]; ((repeat' (first|(refine ag_x ?_;simp [go_sem])|intro _|apply And.intro|(apply Yh;clear Yh Y)));all_goals first|apply Hold.mk|omega|with_reducible assumption|skip))
  ((try refine CallT.toA ?_); refine callT_m (by first|exact .inl ⟨rfl,rfl⟩|exact .inr rfl) (by simp [go_sem]) ?_; intro args ha; simp [go_sem] at ha; subst ha; refine ⟨_, HC, ?_⟩; rintro _ rfl; simp [go_sem]; ((repeat' (first|(refine ag_x ?_;simp [go_sem])|intro _|apply And.intro|(apply Yh;clear Yh Y)));all_goals first|apply Hold.mk|omega|with_reducible assumption|skip))
  (refine awp_sr fun Y Yh => ?_; simp [go_sem]; ((repeat' (first|(refine ag_x ?_;simp [go_sem])|intro _|apply And.intro|(apply Yh;clear Yh Y)));all_goals first|apply Hold.mk|omega|with_reducible assumption|skip))
  cases ok with
  | false =>
   (refine awp_if fun T F hT hF => ?_; simp [go_sem]; refine hT ?_; clear hT hF T F)
   (refine awp_sr fun Y Yh => ?_; simp [go_sem]; ((repeat' (first|(refine ag_x ?_;simp [go_sem])|intro _|apply And.intro|(apply Yh;clear Yh Y)));all_goals first|apply Hold.mk|omega|with_reducible assumption|skip))
   refine awp_nilsl 4 1 rfl ?_
   unfold askV
   rw [if_pos (hno rfl)]
   (refine awp_ret ?_; simp [go_sem])
  | true =>
   (refine awp_if fun T F hT hF => ?_; simp [go_sem]; refine hF ?_; clear hT hF T F)
   refine awp_skip ?_
   refine hK3 _ ?_; clear hK3
   (refine awp_r fun Y Yh => ?_; simp [go_sem]; ((repeat' (first|(refine ag_x ?_;simp [go_sem])|intro _|apply And.intro|(apply Yh;clear Yh Y)));all_goals first|apply Hold.mk|omega|with_reducible assumption|skip))
   refine ⟨i + 1, ?_, ⟨by omega, hok⟩, by omega⟩
   (refine cov_of ?_ ?_ <;> simp [go_sem])
 ·(refine awp_if fun T F hT hF => ?_; simp [go_sem, h]; refine hF ?_; clear hT hF T F)
  refine awp_exit ?_
  simp only [go_sem]
  refine hK1 _ ?_; clear hK1
  obtain rfl : i = l.length := by omega
  rw [List.take_length] at hall
  have ea : askV l p = match toksV p with
   | none => ([], 4)
   | some t => (t, 0) := by
   unfold askV
   rw [hall]
   simp
  rw [ea]
  clear ea
  cases ht : toksV p with
  | none =>
   rw [ht] at HT
   simp only [tokR] at HT
   (refine awp_sr fun Y Yh => ?_; simp [go_sem]; ((repeat' (first|(refine ag_x ?_;simp [go_sem])|intro _|apply And.intro|(apply Yh;clear Yh Y)));all_goals first|apply Hold.mk|omega|with_reducible assumption|skip))
   ((try refine CallT.toA ?_); refine callT_m (by first|exact .inl ⟨rfl,rfl⟩|exact .inr rfl) (by simp [go_sem]) ?_; intro args ha; simp [go_sem] at ha; subst ha; refine ⟨_, HT, ?_⟩; rintro _ rfl; simp [go_sem]; ((repeat' (first|(refine ag_x ?_;simp [go_sem])|intro _|apply And.intro|(apply Yh;clear Yh Y)));all_goals first|apply Hold.mk|omega|with_reducible assumption|skip))
   refine awp_seq_k fun K5 hK5 => ?_
   (refine awp_sr fun Y Yh => ?_; simp [go_sem]; ((repeat' (first|(refine ag_x ?_;simp [go_sem])|intro _|apply And.intro|(apply Yh;clear Yh Y)));all_goals first|apply Hold.mk|omega|with_reducible assumption|skip))
   (refine awp_if fun T F hT hF => ?_; simp [go_sem]; refine hT ?_; clear hT hF T F)
   (refine awp_sr fun Y Yh => ?_; simp [go_sem]; ((repeat' (first|(refine ag_x ?_;simp [go_sem])|intro _|apply And.intro|(apply Yh;clear Yh Y)));all_goals first|apply Hold.mk|omega|with_reducible assumption|skip))
   refine awp_nilsl 4 1 rfl ?_
   (refine awp_ret ?_; simp [go_sem])
  | some tk =>
   rw [ht] at HT
   simp only [tokR] at HT
   (refine awp_sr fun Y Yh => ?_; simp [go_sem]; ((repeat' (first|(refine ag_x ?_;simp [go_sem])|intro _|apply And.intro|(apply Yh;clear Yh Y)));all_goals first|apply Hold.mk|omega|with_reducible assumption|skip))
   ((try refine CallT.toA ?_); refine callT_m (by first|exact .inl ⟨rfl,rfl⟩|exact .inr rfl) (by simp [go_sem]) ?_; intro args ha; simp [go_sem] at ha; subst ha; refine ⟨_, HT, ?_⟩; rintro _ rfl; simp [go_sem]; ((repeat' (first|(refine ag_x ?_;simp [go_sem])|intro _|apply And.intro|(apply Yh;clear Yh Y)));all_goals first|apply Hold.mk|omega|with_reducible assumption|skip))
   refine awp_seq_k fun K5 hK5 => ?_
   (refine awp_sr fun Y Yh => ?_; simp [go_sem]; ((repeat' (first|(refine ag_x ?_;simp [go_sem])|intro _|apply And.intro|(apply Yh;clear Yh Y)));all_goals first|apply Hold.mk|omega|with_reducible assumption|skip))
   (refine awp_if fun T F hT hF => ?_; simp [go_sem]; refine hF ?_; clear hT hF T F)
   refine awp_skip ?_
   refine hK5 _ ?_; clear hK5
   (refine awp_sr fun Y Yh => ?_; simp [go_sem]; ((repeat' (first|(refine ag_x ?_;simp [go_sem])|intro _|apply And.intro|(apply Yh;clear Yh Y)));all_goals first|apply Hold.mk|omega|with_reducible assumption|skip))
   (refine awp_ret ?_; simp [go_sem])
end Go.Proofs.YtkgmecjaejaehaaGreatDoor
namespace Go.Js
/-! where a pointer leads in a valid value -/
mutual
def fitV : JV → Prop
 | .mk k _ ns xs => (k = 6 → ns.length = xs.length) ∧ fitL xs
def fitL : List JV → Prop
 | [] => True
 | x :: xs => fitV x ∧ fitL xs
end
theorem fitL_mem : ∀ {xs : List JV}, fitL xs → ∀ x ∈ xs, fitV x
 | [], _, x, h => by cases h
 | y :: xs, hf, x, h => by
  simp only [fitL] at hf
  rcases List.mem_cons.1 h with rfl | h
  ·exact hf.1
  ·exact fitL_mem hf.2 x h
theorem vldL_fit : ∀ (xs : List JV) (left deep : Int), (∀ x ∈ xs, ∀ l d, (vldV x l d).1 = true → fitV x) → (vldL xs left deep).1 = true → fitL xs
 | [], _, _, _, _ => by simp [fitL]
 | x :: xs, left, deep, H, h => by
  simp only [vldL] at h
  split at h
  ·rename_i q
   simp only [fitL]
   exact ⟨H x (List.mem_cons_self ..) _ _ q, vldL_fit xs _ _ (fun y hy => H y (List.mem_cons_of_mem _ hy)) h⟩
  ·cases h
theorem vldV_fit : ∀ (N : Nat) (v : JV), sizeJ v ≤ N → ∀ (left deep : Int), (vldV v left deep).1 = true → fitV v := by
 intro N
 induction N using Nat.strongRecOn with
 | _ N ih =>
 rintro ⟨k, t, ns, xs⟩ hv left deep h
 have HI : ∀ x ∈ xs, ∀ l d, (vldV x l d).1 = true → fitV x := fun x hx l d hl =>
  ih (sizeJ x) (by have := sizeJ_item (k := k) (t := t) (ns := ns) hx; omega) x (Nat.le_refl _) l d hl
 simp only [vldV] at h
 simp only [fitV]
 split at h
 ·cases h
 ·split at h
  ·rename_i q
   simp only [Bool.and_eq_true, decide_eq_true_eq] at h
   obtain ⟨⟨rfl, rfl⟩, _⟩ := h
   simp [fitL]
  ·split at h
   ·rename_i q1 q2
    refine ⟨fun q => by omega, ?_⟩
    split at h
    ·cases h
    ·split at h
     ·cases h
     ·exact vldL_fit xs _ _ HI h
   ·split at h
    ·rename_i q
     split at h
     ·cases h
     ·rename_i q3
      split at h
      ·cases h
      ·refine ⟨fun _ => ?_, vldL_fit xs _ _ HI h⟩
       simp only [okNames, Bool.not_eq_false, Bool.and_eq_true, decide_eq_true_eq] at q3
       exact q3.1.1
    ·cases h
theorem fitV_item {v : JV} (h : fitV v) {n : Nat} (hn : n < v.items.length) : fitV v.items[n] := by
 obtain ⟨k, t, ns, xs⟩ := v
 simp only [fitV] at h
 exact fitL_mem h.2 _ (List.getElem_mem hn)
theorem sizeJ_items {v : JV} {n : Nat} (hn : n < v.items.length) : sizeJ v.items[n] < sizeJ v := by
 obtain ⟨k, t, ns, xs⟩ := v
 exact sizeJ_item (List.getElem_mem hn)
theorem ixV_lt (ns : List (List UInt8)) (t : List UInt8) : ixV ns t < ns.length ∧ -1 ≤ ixV ns t := by
 unfold ixV fIx
 split <;> omega
theorem idxT_lt {v : JV} (hf : fitV v) (t : List UInt8) : idxT v t < v.items.length ∧ -1 ≤ idxT v t := by
 obtain ⟨k, tx, ns, xs⟩ := v
 simp only [fitV] at hf
 have e : idxT (.mk k tx ns xs) t = if k = 6 then ixV ns t else if k ≠ 5 ∨ t = [] ∨ 4 < t.length ∨ (t[0]? = some 48 ∧ 1 < t.length) ∨ t.all isDg = false then -1 else if xs.length ≤ decV t then -1 else decV t := rfl
 rw [e]
 simp only [JV.items]
 have h1 := ixV_lt ns t
 split
 ·rename_i q
  have := hf.1 q
  omega
 ·split
  ·omega
  ·split
   ·omega
   ·omega
theorem goV_step {v : JV} {t : List UInt8} {l : List (List UInt8)} {n : Nat} (h : idxT v t = n) (hn : n < v.items.length) : goV v (t :: l) = goV v.items[n] l := by
 simp only [goV]
 rw [h, if_neg (by omega), Int.toNat_natCast, List.getD_eq_getElem?_getD, List.getElem?_eq_getElem hn]
 rfl
theorem goV_none {v : JV} {t : List UInt8} {l : List (List UInt8)} (h : idxT v t < 0) : goV v (t :: l) = none := by
 simp only [goV]
 rw [if_pos h]
end Go.Js
namespace Go.Proofs.YtkgmecjaejaehaaGreatDoor
open Go.Eng Go.Js
set_option maxRecDepth 20000
attribute [local irreducible] AG CallA CallT AWp PCall ACall XCall AgC
theorem askV_one (v : JV) (p : Bs) : atV v p = if (askV [v] p).2 ≠ 0 then (.mk 0 [] [] [], (askV [v] p).2) else match goV v (askV [v] p).1 with
  | none => (.mk 0 [] [] [], 3)
  | some x => (x, 0) := by
 unfold atV askV
 have e : [v].all okV = (vldV v 2000 1).1 := by simp [okV]
 rw [e]
 cases (vldV v 2000 1).1 with
 | false => simp
 | true =>
  cases toksV p with
  | none => simp
  | some t =>
   simp only
   rw [if_neg (by simp)]
   simp only [Bool.true_eq_false, if_false]
   generalize goV v t = z
   cases z <;> rfl
structure AtSt where
 i : Nat
 x : JV
def atInv (v : JV) (L : List Bs) (y : AtSt) : Prop := y.i ≤ L.length ∧ goV v L = goV y.x (L.drop y.i) ∧ fitV y.x ∧ sizeJ y.x ≤ 1000000
theorem toks_len {p : Bs} {l : List Bs} (h : toksV p = some l) : l.length ≤ p.length + 1 ∧ ∀ t ∈ l, t.length ≤ p.length := by
 match p, h with
 | [], h => simp [toksV] at h; subst h; simp
 | c :: s, h =>
  simp only [toksV] at h
  split at h
  ·cases h
  ·split at h
   ·cases h
    have h1 := cutV_len s
    refine ⟨by simp; omega, fun t ht => ?_⟩
    obtain ⟨u, hu, rfl⟩ := List.mem_map.1 ht
    have h2 := cutV_each s u hu
    have h3 := repV_len 49 48 [47] [126] (by simp) (by simp) u.length u (Nat.le_refl _)
    have h4 : (tokT u).length ≤ u.length := h3
    simp; omega
   ·cases h
set_option maxHeartbeats 16000000 in
theorem at_spec (v : JV) (p : Bs) (hp : p.length ≤ 1000000) (h1 : sizeJ v ≤ 1000000) (h2 : longJ v ≤ 4611686018427387904) : PCall Tryz.prog 27 [dJ v, dS p] fun r => r = .tup [dJ (atV v p).1, dI (atV v p).2] := by 
 have HA := asked_spec p hp [v] (by simpa using h1) (by simpa using h2) (by simp)
 rw [askV_one]
 have hfit : (askV [v] p).2 = 0 → fitV v ∧ (askV [v] p).1.length ≤ 1000001 ∧ ∀ t ∈ (askV [v] p).1, t.length ≤ 1000000 := fun h => by
  unfold askV at h ⊢
  split at h
  ·cases h
  ·rename_i q
   rw [if_neg q]
   have hq : (vldV v 2000 1).1 = true := by simpa [okV] using q
   refine ⟨vldV_fit _ v (Nat.le_refl _) 2000 1 hq, ?_⟩
   cases ht : toksV p with
   | none => simp
   | some l =>
    have := toks_len ht
    refine ⟨by simp only; omega, fun t ht' => ?_⟩
    have := this.2 t ht'
    omega
 generalize askV [v] p = q at *
 obtain ⟨L, e⟩ := q
 simp only at hfit HA ⊢
 generalize hres : (if e ≠ 0 then ((.mk 0 [] [] [], e) : JV × Int) else match goV v L with
  | none => (.mk 0 [] [] [], 3)
  | some x => (x, 0)) = res
 obtain ⟨k, t, ns, xs⟩ := v
 simp only [List.map_cons, List.map_nil, cJ_mk] at HA
 rw [dJ_mk]
 refine pcall_of Tryz.func27 rfl rfl Tryz.ntmps27 (rs := [.cell 4 26, .tmp 5]) (tys := [26, 27]) rfl rfl (by simp) ?_
 refine awp_seq ?_
 refine awp_r fun Y Yh => ?_
 simp [go_sem]
 intro gv gr
 apply Yh; clear Yh Y
 refine Hold.mk ?_
 (refine awp_sr fun Y Yh => ?_; simp [go_sem]; ((repeat' (first|(refine ag_x ?_;simp [go_sem])|intro _|apply And.intro|(apply Yh;clear Yh Y)));all_goals first|apply Hold.mk|omega|with_reducible assumption|skip))
 refine callA_frz 14 rfl ?_
 ((try refine CallT.toA ?_); refine callT_m (by first|exact .inl ⟨rfl,rfl⟩|exact .inr rfl) (by simp [go_sem]) ?_; intro args ha; simp [go_sem] at ha; subst ha; refine ⟨_, HA, ?_⟩; rintro _ rfl; simp [go_sem]; ((repeat' (first|(refine ag_x ?_;simp [go_sem])|intro _|apply And.intro|(apply Yh;clear Yh Y)));all_goals first|apply Hold.mk|omega|with_reducible assumption|skip))
 refine awp_seq_k fun K1 hK1 => ?_
 (refine awp_sr fun Y Yh => ?_; simp [go_sem]; ((repeat' (first|(refine ag_x ?_;simp [go_sem])|intro _|apply And.intro|(apply Yh;clear Yh Y)));all_goals first|apply Hold.mk|omega|with_reducible assumption|skip))
 by_cases he : e = 0
 ·subst he
  obtain ⟨hf0, hL1, hL2⟩ := hfit rfl
  rw [if_neg (by simp)] at hres
  (refine awp_if fun T F hT hF => ?_; simp [go_sem]; refine hF ?_; clear hT hF T F)
  refine awp_skip ?_
  refine hK1 _ ?_; clear hK1
  refine awp_seq_k fun K2 hK2 => ?_
  (refine awp_sr fun Y Yh => ?_; simp [go_sem]; ((repeat' (first|(refine ag_x ?_;simp [go_sem])|intro _|apply And.intro|(apply Yh;clear Yh Y)));all_goals first|apply Hold.mk|omega|with_reducible assumption|skip))
  refine awp_block ?_
  refine awp_loop (σ := AtSt) (fun y => ⟨[(2, .ptr 2 gv 0), (4, .ptr 4 gr 0), (22, dSs L), (23, dI L.length), (24, dI y.i)], [(2, (gv, .box (cJ y.x))), (4, (gr, .box [dI 0, dS [], nS, nS]))]⟩) (atInv (.mk k t ns xs) L) (fun y => L.length - y.i) ⟨0, .mk k t ns xs⟩ ?_ ?_ ?_
  ·(refine cov_of ?_ ?_ <;> simp [go_sem, cJ_mk])
  ·exact ⟨Nat.zero_le _, by simp, hf0, h1⟩
  rintro ⟨i, x⟩ ⟨hi, hgo, hfx, hsz⟩
  simp only at hi hgo hfx hsz ⊢
  by_cases h : i < L.length
  ·have hdr : L.drop i = L[i] :: L.drop (i + 1) := List.drop_eq_getElem_cons h
   have htl := hL2 L[i] (List.getElem_mem h)
   have hix := idxT_lt hfx L[i]
   have HI := idx_spec x L[i]
   have hst := fun (n : Nat) (q : idxT x L[i] = n) (hn : n < x.items.length) => goV_step (l := L.drop (i + 1)) q hn
   have hno := fun (q : idxT x L[i] < 0) => goV_none (l := L.drop (i + 1)) q
   have hfi := fun (n : Nat) (hn : n < x.items.length) => fitV_item hfx hn
   have hsi := fun (n : Nat) (hn : n < x.items.length) => sizeJ_items (v := x) hn
   have hln := sizeJ_names x.kind x.text x.names x.items
   rw [hdr] at hgo
   obtain ⟨k', t', ns', xs'⟩ := x
   simp only [JV.kind, JV.text, JV.names, JV.items] at hix HI hst hno hfi hsi hln
   have HI := HI (by omega) (by omega) (by omega)
   rw [dJ_mk] at HI
   rw [cJ_mk]
   have hg : L[i]? = some L[i] := List.getElem?_eq_getElem h
   generalize L[i] = tk at *
   generalize hj : idxT (.mk k' t' ns' xs') tk = j at *
   (refine awp_sr fun Y Yh => ?_; simp [go_sem]; ((repeat' (first|(refine ag_x ?_;simp [go_sem])|intro _|apply And.intro|(apply Yh;clear Yh Y)));all_goals first|apply Hold.mk|omega|with_reducible assumption|skip))
   refine awp_seq_k fun K3 hK3 => ?_
   (refine awp_if fun T F hT hF => ?_; simp [go_sem, h]; refine hT ?_; clear hT hF T F)
   refine awp_skip ?_
   refine hK3 _ ?_; clear hK3
   refine awp_seq_k fun K4 hK4 => ?_
   refine awp_block ?_
   (refine awp_sr fun Y Yh => ?_; simp [go_sem, hg]; ((repeat' (first|(refine ag_x ?_;simp [go_sem, hg])|intro _|apply And.intro|(apply Yh;clear Yh Y)));all_goals first|apply Hold.mk|omega|with_reducible assumption|skip))
   (refine awp_sr fun Y Yh => ?_; simp [go_sem]; ((repeat' (first|(refine ag_x ?_;simp [go_sem])|intro _|apply And.intro|(apply Yh;clear Yh Y)));all_goals first|apply Hold.mk|omega|with_reducible assumption|skip))
   ((try refine CallT.toA ?_); refine callT_m (by first|exact .inl ⟨rfl,rfl⟩|exact .inr rfl) (by simp [go_sem]) ?_; intro args ha; simp [go_sem] at ha; subst ha; refine ⟨_, HI, ?_⟩; rintro _ rfl; simp [go_sem]; ((repeat' (first|(refine ag_x ?_;simp [go_sem])|intro _|apply And.intro|(apply Yh;clear Yh Y)));all_goals first|apply Hold.mk|omega|with_reducible assumption|skip))
   refine awp_seq_k fun K5 hK5 => ?_
   (refine awp_sr fun Y Yh => ?_; simp [go_sem]; ((repeat' (first|(refine ag_x ?_;simp [go_sem])|intro _|apply And.intro|(apply Yh;clear Yh Y)));all_goals first|apply Hold.mk|omega|with_reducible assumption|skip))
   by_cases hneg : j < 0
   ·(refine awp_if fun T F hT hF => ?_; simp [go_sem, hneg]; refine hT ?_; clear hT hF T F)
    (refine awp_sr fun Y Yh => ?_; simp [go_sem]; ((repeat' (first|(refine ag_x ?_;simp [go_sem])|intro _|apply And.intro|(apply Yh;clear Yh Y)));all_goals first|apply Hold.mk|omega|with_reducible assumption|skip))
    rw [hgo, hno hneg] at hres
    subst hres
    (refine awp_ret ?_; simp [go_sem])
    simp [dJ_mk]
   ·obtain ⟨n, rfl⟩ : ∃ n : Nat, j = n := ⟨j.toNat, by omega⟩
    have hn : n < xs'.length := by omega
    (refine awp_if fun T F hT hF => ?_; simp [go_sem, hneg]; refine hF ?_; clear hT hF T F)
    refine awp_skip ?_
    refine hK5 _ ?_; clear hK5
    have hgx : xs'[n]? = some xs'[n] := List.getElem?_eq_getElem hn
    have hgo2 := hst n rfl hn
    have hfi2 := hfi n hn
    have hsi2 := hsi n hn
    obtain ⟨k2, t2, ns2, xs2, hx2⟩ : ∃ k2 t2 ns2 xs2, xs'[n] = .mk k2 t2 ns2 xs2 := by
     cases hx : xs'[n] with
     | mk k2 t2 ns2 xs2 => exact ⟨_, _, _, _, rfl⟩
    rw [hx2] at hgx hgo2 hfi2 hsi2
    (refine awp_r fun Y Yh => ?_; simp [go_sem, hn, hx2, cJ_mk]; ((repeat' (first|(refine ag_x ?_;simp [go_sem, hn, hx2, cJ_mk])|intro _|apply And.intro|(apply Yh;clear Yh Y)));all_goals first|apply Hold.mk|omega|with_reducible assumption|skip))
    show K4 _
    refine hK4 _ ?_; clear hK4
    (refine awp_r fun Y Yh => ?_; simp [go_sem]; ((repeat' (first|(refine ag_x ?_;simp [go_sem])|intro _|apply And.intro|(apply Yh;clear Yh Y)));all_goals first|apply Hold.mk|omega|with_reducible assumption|skip))
    refine ⟨⟨i + 1, .mk k2 t2 ns2 xs2⟩, ?_, ⟨by simp only; omega, by simp only; rw [hgo, hgo2], hfi2, by simp only; omega⟩, by simp only; omega⟩
    (refine cov_of ?_ ?_ <;> simp [go_sem, cJ_mk])
  ·(refine awp_sr fun Y Yh => ?_; simp [go_sem]; ((repeat' (first|(refine ag_x ?_;simp [go_sem])|intro _|apply And.intro|(apply Yh;clear Yh Y)));all_goals first|apply Hold.mk|omega|with_reducible assumption|skip))
   refine awp_seq_k fun K3 hK3 => ?_
   (refine awp_if fun T F hT hF => ?_; simp [go_sem, h]; refine hF ?_; clear hT hF T F)
   refine awp_exit ?_
   simp only [go_sem]
   refine hK2 _ ?_; clear hK2
   obtain rfl : i = L.length := by omega
   rw [List.drop_length] at hgo
   rw [hgo] at hres
   simp only [goV] at hres
   subst hres
   have HO := own_spec (sizeJ x) x (Nat.le_refl _) (by omega)
   obtain ⟨k', t', ns', xs'⟩ := x
   rw [dJ_mk] at HO ⊢
   rw [cJ_mk]
   (refine awp_sr fun Y Yh => ?_; simp [go_sem]; ((repeat' (first|(refine ag_x ?_;simp [go_sem])|intro _|apply And.intro|(apply Yh;clear Yh Y)));all_goals first|apply Hold.mk|omega|with_reducible assumption|skip))
   ((try refine CallT.toA ?_); refine callT_m (by first|exact .inl ⟨rfl,rfl⟩|exact .inr rfl) (by simp [go_sem]) ?_; intro args ha; simp [go_sem] at ha; subst ha; refine ⟨_, HO, ?_⟩; rintro _ rfl; simp [go_sem]; ((repeat' (first|(refine ag_x ?_;simp [go_sem])|intro _|apply And.intro|(apply Yh;clear Yh Y)));all_goals first|apply Hold.mk|omega|with_reducible assumption|skip))
   (refine awp_ret ?_; simp [go_sem])
 ·rw [if_pos he] at hres
  subst hres
  (refine awp_if fun T F hT hF => ?_; simp [go_sem, he]; refine hT ?_; clear hT hF T F)
  (refine awp_sr fun Y Yh => ?_; simp [go_sem]; ((repeat' (first|(refine ag_x ?_;simp [go_sem])|intro _|apply And.intro|(apply Yh;clear Yh Y)));all_goals first|apply Hold.mk|omega|with_reducible assumption|skip))
  (refine awp_ret ?_; simp [go_sem, he])
  simp [dJ_mk]
end Go.Proofs.YtkgmecjaejaehaaGreatDoor
