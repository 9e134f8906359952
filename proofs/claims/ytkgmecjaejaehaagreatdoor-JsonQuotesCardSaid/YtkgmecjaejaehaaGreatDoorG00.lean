/- Part of a proof: see the last text. -/
import Derived.WalkKit
import Derived.Laws.AppendOwnNone
import Derived.Laws.CopyOwn
import Derived.Deep.Draws
import Derived.KernelRfl
import Derived.Lib.FrozenHead
import Derived.MapKept
import Derived.Laws.Tables
import Derived.Laws.StructEq
set_option linter.unusedVariables false
set_option linter.unusedSimpArgs false
namespace Go.Eng
inductive D where
 | v (x : Value)
 | agg (cs : List D)
 | tup (cs : List D)
 | sl (k : Nat) (es : List (List D))
 | slc (k : Nat) (es : List (List D))
 | own (s g : Nat)
 | ptr (s g off : Nat)
 | elt (s g k i off : Nat)
 | rd (cs : List D)
 | when (c : Bool) (d : D)
 | fn (f : FuncId) (cs : List D)
 | ifc (t : TypeId) (d : D)
 | sub (s g j : Nat)
 | mfn (f : FuncId) (d : D)
structure Ctx where
 val : Nat → Nat → Option Value
 live : Nat → Nat → Bool
def blk : Value → Option Nat
 | .pointer (some a) => some a.block
 | .slice (some a) _ _ => some a.block
 | .map (some r) => some r
 | _ => none
def Ctx.owns (C : Ctx) (b : Nat) : Prop := ∃ s g u, C.val s g = some u ∧ C.live s g = true ∧ blk u = some b
inductive Rep (C : Ctx) (w : World) : D → Value → Prop
 | v (x : Value) : Rep C w (.v x) x
 | agg (cs : List D) (us : Array Value) (hn : us.size = cs.length) (h : ∀ (j : Nat) c u, cs[j]? = some c → us[j]? = some u → Rep C w c u) : Rep C w (.agg cs) (.agg us)
 | tup (cs : List D) (us : Array Value) (hn : us.size = cs.length) (h : ∀ (j : Nat) c u, cs[j]? = some c → us[j]? = some u → Rep C w c u) : Rep C w (.tup cs) (.tuple us)
 | own (s g : Nat) (u : Value) (h : C.val s g = some u) (h1 : u.oneCell' = true) : Rep C w (.own s g) u
 | ptr (s g off b : Nat) (h : C.val s g = some (.pointer (some ⟨b, 0, none⟩))) : Rep C w (.ptr s g off) (.pointer (some ⟨b, off, none⟩))
 | elt (s g k i off b n c : Nat) (h : C.val s g = some (.slice (some ⟨b, 0, none⟩) n c)) : Rep C w (.elt s g k i off) (.pointer (some ⟨b, i * k + off, none⟩))
 | rd (cs : List D) (b o : Nat) (us : Nat → Value) (hc : ∀ (j : Nat) c, cs[j]? = some c → ¬ C.owns b ∧ w.cell? ⟨b, o + j, none⟩ = some (us j))
   (h : ∀ (j : Nat) c, cs[j]? = some c → Rep C w c (us j)) : Rep C w (.rd cs) (.pointer (some ⟨b, o, none⟩))
 | slE (k : Nat) (a : Option Addr) (cap : Nat) (hm : cap ≤ maxLen) : Rep C w (.sl k []) (.slice a 0 cap)
 | sl (k : Nat) (es : List (List D)) (b o cap : Nat) (us : Nat → Nat → Value) (hl : es.length ≤ cap) (hm : cap ≤ maxLen) (hk : ∀ e ∈ es, e.length = k)
   (hc : ∀ (i j : Nat) e c, es[i]? = some e → e[j]? = some c → ¬ C.owns b ∧ w.cell? ⟨b, o + (i * k + j), none⟩ = some (us i j))
   (h : ∀ (i j : Nat) e c, es[i]? = some e → e[j]? = some c → Rep C w c (us i j)) : Rep C w (.sl k es) (.slice (some ⟨b, o, none⟩) es.length cap)
 | slc (k : Nat) (es : List (List D)) (u : Value) (h : Rep C w (.sl k es) u) (hc : ∃ ao, u = .slice ao es.length es.length) : Rep C w (.slc k es) u
 | whenT (d : D) (u : Value) (h : Rep C w d u) : Rep C w (.when true d) u
 | whenF (d : D) : Rep C w (.when false d) undef
 | fn (f : FuncId) (cs : List D) (us : Array Value) (hn : us.size = cs.length) (h : ∀ (j : Nat) c u, cs[j]? = some c → us[j]? = some u → Rep C w c u) : Rep C w (.fn f cs) (.func (.func f) #[] us)
 | ifc (t : TypeId) (d : D) (u : Value) (h : Rep C w d u) : Rep C w (.ifc t d) (.iface t u)
 | sub (s g j b n c : Nat) (h : C.val s g = some (.slice (some ⟨b, 0, none⟩) n c)) (hj : j ≤ n) : Rep C w (.sub s g j) (.slice (some ⟨b, j, none⟩) (n - j) (c - j))
 | mfn (f : FuncId) (d : D) (u : Value) (h : Rep C w d u) : Rep C w (.mfn f d) (.func (.func f) #[u] #[])
structure Ext (C : Ctx) (w : World) (C' : Ctx) (w' : World) : Prop where
 val : ∀ s g x, C.val s g = some x → C'.val s g = some x
 owns : ∀ b, b < w.heap.size → C'.owns b → C.owns b
 heap : ∀ b, b < w.heap.size → ¬ C.owns b → w'.heap[b]? = w.heap[b]?
 size : w.heap.size ≤ w'.heap.size
theorem Ext.refl (C : Ctx) (w : World) : Ext C w C w := ⟨fun _ _ _ h => h, fun _ _ h => h, fun _ _ _ => rfl, Nat.le_refl _⟩
theorem Ext.trans {C C1 C2 : Ctx} {w w1 w2 : World} (h : Ext C w C1 w1) (k : Ext C1 w1 C2 w2) : Ext C w C2 w2 where
 val := fun s g x e => k.val s g x (h.val s g x e)
 owns := fun b hb e => h.owns b hb (k.owns b (Nat.lt_of_lt_of_le hb h.size) e)
 heap := fun b hb e => (k.heap b (Nat.lt_of_lt_of_le hb h.size) (fun e' => e (h.owns b hb e'))).trans (h.heap b hb e)
 size := Nat.le_trans h.size k.size
theorem cell_lt {w : World} {a : Addr} {v : Value} (h : w.cell? a = some v) : a.block < w.heap.size := block_lt_of_cell h
theorem Rep.mono {C C' : Ctx} {w w' : World} (e : Ext C w C' w') {d : D} {u : Value} (h : Rep C w d u) : Rep C' w' d u := by
 induction h with
 | v x => exact .v x
 | agg cs us hn _ ih => exact .agg cs us hn ih
 | tup cs us hn _ ih => exact .tup cs us hn ih
 | own s g u h h1 => exact .own s g u (e.val _ _ _ h) h1
 | ptr s g off b h => exact .ptr s g off b (e.val _ _ _ h)
 | elt s g k i off b n c h => exact .elt s g k i off b n c (e.val _ _ _ h)
 | rd cs b o us hc _ ih =>
  refine .rd cs b o us (fun j c hj => ?_) ih
  obtain ⟨h1, h2⟩ := hc j c hj
  have hb := cell_lt h2
  exact ⟨fun x => h1 (e.owns _ hb x), (World.cell?_of_block (e.heap _ hb h1)).trans h2⟩
 | slE k a cap hm => exact .slE k a cap hm
 | sl k es b o cap us hl hm hk hc _ ih =>
  refine .sl k es b o cap us hl hm hk (fun i j e' c hi hj => ?_) ih
  obtain ⟨h1, h2⟩ := hc i j e' c hi hj
  have hb := cell_lt h2
  exact ⟨fun x => h1 (e.owns _ hb x), (World.cell?_of_block (e.heap _ hb h1)).trans h2⟩
 | slc k es u _ hc ih => exact .slc k es u ih hc
 | whenT d u _ ih => exact .whenT d u ih
 | whenF d => exact .whenF d
 | fn f cs us hn _ ih => exact .fn f cs us hn ih
 | ifc t d u _ ih => exact .ifc t d u ih
 | sub s g j b n c h hj => exact .sub s g j b n c (e.val _ _ _ h) hj
 | mfn f d u _ ih => exact .mfn f d u ih
inductive Blk where
 | box (cs : List D)
 | row (e k : Nat) (es : List (List D))
 | froz (k : Nat) (es : List (List D))
 | map (es : List (Value × D))
 | bld (t nr gr : Nat)
 | brow (e : Nat) (l : List UInt8)
structure St where
 slots : List (Nat × D)
 heap : List (Nat × (Nat × Blk))
def look {α : Type} : List (Nat × α) → Nat → Option α
 | [], _ => none
 | (k, x) :: l, i => if k = i then some x else look l i
def HRep (C : Ctx) (w : World) (s g : Nat) : Blk → Prop
 | .box cs => ∃ b arr ty, C.val s g = some (.pointer (some ⟨b, 0, none⟩)) ∧ C.live s g = true ∧ w.heap[b]? = some (.cells arr ty (0, 0)) ∧ arr.size = cs.length ∧
   ∀ (j : Nat) c u, cs[j]? = some c → arr[j]? = some u → Rep C w c u ∧ u.oneCell' = true
 | .row e k es => ∃ u xs, C.val s g = some u ∧ C.live s g = true ∧ w.ownsRow 0 e k u es.length xs ∧ (∀ e' ∈ es, e'.length = k) ∧
   ∀ (i j : Nat) e' c x, es[i]? = some e' → e'[j]? = some c → xs[i * k + j]? = some x → Rep C w c x ∧ x.oneCell' = true
 | .froz k es => ∃ u, C.val s g = some u ∧ Rep C w (.sl k es) u
 | .map es => ∃ r arr clock, C.val s g = some (.map (some r)) ∧ C.live s g = true ∧ w.heap[r]? = some (.map arr clock) ∧ (arr.size = es.length ∧ MapKept.Stamped arr clock) ∧
   ∀ (j : Nat) e x, es[j]? = some e → arr[j]? = some x → x.key = e.1 ∧ Rep C w e.2 x.val
 | .bld t nr gr => ∃ b p v, C.val s g = some (.pointer (some ⟨b, 0, none⟩)) ∧ C.live s g = true ∧ w.heap[b]? = some (.cells #[p, v] t (0, 0)) ∧
   (p = .pointer none ∨ p = .pointer (some ⟨b, 0, none⟩)) ∧ C.val nr gr = some v
 | .brow e l => ∃ u, C.val s g = some u ∧ C.live s g = true ∧ w.ownsRowF 0 e 1 u l.length (Lib.byteCells l)
structure Frm (w0 : World) (B : Nat → Prop) (w : World) : Prop where
 os : w.os = w0.os
 tape : w.tape = w0.tape
 output : w.output = w0.output
 size : w0.heap.size ≤ w.heap.size
 block : ∀ b, b < w0.heap.size → ¬ B b → w.heap[b]? = w0.heap[b]?
theorem Frm.refl (w : World) (B : Nat → Prop) : Frm w B w := ⟨rfl, rfl, rfl, Nat.le_refl _, fun _ _ _ => rfl⟩
def bB (C0 : Ctx) (B : Nat → Nat → Prop) (b : Nat) : Prop := ∃ s g u, B s g ∧ C0.val s g = some u ∧ blk u = some b
structure Inv (w0 : World) (B : Nat → Nat → Prop) (C0 : Ctx) (n : Nat) (S : St) (C : Ctx) (a : Act) (w : World) : Prop where
 size : a.tmps.size = n
 defers : a.defers = []
 slots : ∀ k d, look S.slots k = some d → ∃ u, a.tmps[k]? = some u ∧ Rep C w d u
 heap : ∀ s g b, look S.heap s = some (g, b) → HRep C w s g b
 mine : ∀ s g b x u, look S.heap s = some (g, x) → C.live s g = true → C.val s g = some u → blk u = some b → w0.heap.size ≤ b ∨ (bB C0 B b ∧ 900000 ≤ s)
 apart : ∀ s g u s' g' u' b, C.val s g = some u → C.live s g = true → C.val s' g' = some u' → C.live s' g' = true → blk u = some b → blk u' = some b → s = s' ∧ g = g'
 bound : ∀ s g u b, C.val s g = some u → C.live s g = true → blk u = some b → b < w.heap.size
 fresh : ∀ s, ∃ N, ∀ g, N ≤ g → C.val s g = none
 frame : Frm w0 (bB C0 B) w
 old : ∀ s g x, C0.val s g = some x → C.val s g = some x
 owned : ∀ b, b < w0.heap.size → C.owns b → C0.owns b
 kept : ∀ s g u, C0.val s g = some u → C0.live s g = true → ¬ B s g → C.live s g = true
 ents : ∀ s g x y, look S.heap s = some (g, x) → C0.val s g = some y → B s g
 dead0 : ∀ s g x, C0.val s g = some x → C.live s g = true → C0.live s g = true
 bound0 : ∀ s g u b, C0.val s g = some u → C0.live s g = true → blk u = some b → b < w0.heap.size
variable {P : Program}
def InR (n : Int) : Prop := -9223372036854775808 ≤ n ∧ n ≤ 9223372036854775807
def unwK (c : Bool) (d : D) (k : D → Prop) : Prop :=
 match d with
 | .when c' d => (c = true → c' = true) ∧ k d
 | d => k d
def evK (c : Bool) (S : St) (x : Operand) (k : D → Prop) : Prop :=
 match x with
 | .const v => k (.v v)
 | .func f => k (.v (.func (.func f) #[] #[]))
 | .global _ => False
 | .tmp t =>
  match look S.slots t with
  | some d => unwK c d k
  | none => False
def Same (w w' : World) : Prop := w.heap.size ≤ w'.heap.size ∧ ∀ b, b < w.heap.size → w'.heap[b]? = w.heap[b]?
theorem Same.refl (w : World) : Same w w := ⟨Nat.le_refl _, fun _ _ => rfl⟩
theorem Same.alloc (w : World) (o : Obj) : Same w (w.alloc o) := ⟨by simp, fun b hb => RowKit.Below.heap_alloc w o b hb⟩
theorem Same.trans {w w1 w2 : World} (h : Same w w1) (k : Same w1 w2) : Same w w2 := ⟨Nat.le_trans h.1 k.1, fun b hb => (k.2 b (Nat.lt_of_lt_of_le hb h.1)).trans (h.2 b hb)⟩
section
variable {w0 : World} {B : Nat → Nat → Prop} {C0 : Ctx} {n : Nat} {S : St} {C : Ctx} {a : Act} {w : World}
theorem unwK_ok {c : Bool} {d : D} {u : Value} {k : D → Prop} (hr : Rep C w d u) (h : unwK c d k) : ∃ d, k d ∧ (c = true → Rep C w d u) := by
 cases hr with
 | whenT d u hr => exact ⟨d, h.2, fun _ => hr⟩
 | whenF d => exact ⟨d, h.2, fun hc => by have := h.1 hc; cases this⟩
 | v x => exact ⟨_, h, fun _ => .v _⟩
 | agg cs us hn hh => exact ⟨_, h, fun _ => .agg _ _ hn hh⟩
 | tup cs us hn hh => exact ⟨_, h, fun _ => .tup _ _ hn hh⟩
 | own s g u hh h1 => exact ⟨_, h, fun _ => .own _ _ _ hh h1⟩
 | ptr s g off b hh => exact ⟨_, h, fun _ => .ptr _ _ _ _ hh⟩
 | elt s g k i off b n c hh => exact ⟨_, h, fun _ => .elt _ _ _ _ _ _ _ _ hh⟩
 | rd cs b o us hc hh => exact ⟨_, h, fun _ => .rd _ _ _ _ hc hh⟩
 | slE k a cap hm => exact ⟨_, h, fun _ => .slE _ _ _ hm⟩
 | fn f cs us hn hh => exact ⟨_, h, fun _ => .fn _ _ _ hn hh⟩
 | ifc t d u hh => exact ⟨_, h, fun _ => .ifc _ _ _ hh⟩
 | mfn t d u hh => exact ⟨_, h, fun _ => .mfn _ _ _ hh⟩
 | sub s g j b n c hh hj => exact ⟨_, h, fun _ => .sub _ _ _ _ _ _ hh hj⟩
 | slc k es u hh hc => exact ⟨_, h, fun _ => .slc _ _ _ hh hc⟩
 | sl k es b o cap us hl hm hk hc hh => exact ⟨_, h, fun _ => .sl _ _ _ _ _ _ hl hm hk hc hh⟩
theorem evK_ok (I : Inv w0 B C0 n S C a w) {c : Bool} {x : Operand} {k : D → Prop} (h : evK c S x k) : ∃ d, k d ∧ (c = true → Rep C w d (a.eval x)) := by
 cases x with
 | const v => exact ⟨_, h, fun _ => .v v⟩
 | func f => exact ⟨_, h, fun _ => .v _⟩
 | global g => exact h.elim
 | tmp t =>
  simp only [evK] at h
  cases hl : look S.slots t with
  | none => rw [hl] at h; exact h.elim
  | some d =>
   obtain ⟨u, hu, hr⟩ := I.slots t d hl
   have he : a.eval (.tmp t) = u := by simp [Act.eval, hu]
   rw [hl] at h
   rw [he]
   exact unwK_ok hr h
def isLoad : Op → Bool
 | .load _ _ => true
 | .lookup _ _ _ _ => true
 | _ => false
def QOk (P : Program) (C : Ctx) (w : World) (o : Oper) (a : Act) (c : Bool) (k : D → Prop) : Prop :=
 ∃ d, k d ∧ (c = true → ∃ u, Rep C w d u ∧ ∀ w', (isLoad o.op = true → Same w w') → (execOp a.eval o).run P w' = .ok (.value u) w')
theorem Rep.v_inv {x u : Value} (h : Rep C w (.v x) u) : u = x := by cases h; rfl
end
/-! two operands -/
def cmpI (op : BinOp) (a b : Int) : Option Bool :=
 match op with
 | .eql => some (decide (a = b))
 | .neq => some (!decide (a = b))
 | .lss => some (decide (a < b))
 | .leq => some (decide (a ≤ b))
 | .gtr => some (decide (b < a))
 | .geq => some (decide (b ≤ a))
 | _ => none
def arI (op : BinOp) (a b : Int) : Option Int :=
 match op with
 | .add => some (a + b)
 | .sub => some (a - b)
 | .mul => some (a * b)
 | _ => none
def shrI (k : IntKind) (a b : Int) : Int := a.fdiv (2 ^ min b.toNat k.bits)
def shlI (k : IntKind) (a b : Int) : Int := k.wrap (a * 2 ^ min b.toNat k.bits)
def andI (k : IntKind) (a b : Int) : Int := k.wrap (BitVec.ofInt k.bits a &&& BitVec.ofInt k.bits b).toNat
def orI (k : IntKind) (a b : Int) : Int := k.wrap (BitVec.ofInt k.bits a ||| BitVec.ofInt k.bits b).toNat
def xorI (k : IntKind) (a b : Int) : Int := k.wrap (BitVec.ofInt k.bits a ^^^ BitVec.ofInt k.bits b).toNat
def binK (c : Bool) (op : BinOp) (dx dy : D) (k : D → Prop) : Prop :=
 match dx, dy with
 | .v (.int k1 a), .v (.int k2 b) =>
  match op with
  | .shr => (c = true → 0 ≤ b) ∧ k (.v (.int k1 (shrI k1 a b)))
  | .shl => (c = true → 0 ≤ b) ∧ k (.v (.int k1 (shlI k1 a b)))
  | op =>
  k1 = k2 ∧
  match op with
  | .and => k (.v (.int k1 (andI k1 a b)))
  | .or => k (.v (.int k1 (orI k1 a b)))
  | .xor => k (.v (.int k1 (xorI k1 a b)))
  | .quo => (c = true → b ≠ 0) ∧ (if k1 = .i64 then (c = true → InR (a.tdiv b)) ∧ k (.v (.int .i64 (a.tdiv b))) else k (.v (.int k1 (k1.wrap (a.tdiv b)))))
  | .rem => (c = true → b ≠ 0) ∧ k (.v (.int k1 (a.tmod b)))
  | op =>
   match cmpI op a b with
   | some r => k (.v (.bool r))
   | none =>
    match arI op a b with
    | some r => if k1 = .i64 then (c = true → InR r) ∧ k (.v (.int .i64 r)) else k (.v (.int k1 (k1.wrap r)))
    | none => False
 | .v (.bool a), .v (.bool b) =>
  match op with
  | .eql => k (.v (.bool (a == b)))
  | .neq => k (.v (.bool (a != b)))
  | _ => False
 | .v (.string s), .v (.string t) =>
  match op with
  | .add => (c = true → s.size + t.size ≤ 9223372036854775807) ∧ k (.v (.string (s ++ t)))
  | .eql => k (.v (.bool (s.data.toList == t.data.toList)))
  | .neq => k (.v (.bool (!(s.data.toList == t.data.toList))))
  | .lss => k (.v (.bool (Op.bytesLess s.data.toList t.data.toList)))
  | .leq => k (.v (.bool (!Op.bytesLess t.data.toList s.data.toList)))
  | .gtr => k (.v (.bool (Op.bytesLess t.data.toList s.data.toList)))
  | .geq => k (.v (.bool (!Op.bytesLess s.data.toList t.data.toList)))
  | _ => False
 | _, _ => False
theorem bytesLess_total (x y : List UInt8) : (Op.bytesLess x y || x == y) = !Op.bytesLess y x := by
 induction x generalizing y with
 | nil => cases y <;> simp [Op.bytesLess]
 | cons a x ih =>
  cases y with
  | nil => simp [Op.bytesLess]
  | cons b y =>
   have h := ih y
   simp only [Op.bytesLess, List.cons_beq_cons] 
   by_cases h1 : a < b
   ·have h2 : ¬ b < a := fun h => by rw [UInt8.lt_iff_toNat_lt] at *; omega
    have h3 : ¬ b = a := fun h => by subst h; exact h2 h1
    simp [h1, h2, h3]
   ·by_cases h2 : b < a
    ·have h3 : ¬ a = b := fun h => by subst h; exact h1 h2
     simp [h1, h2, h3]
    ·have h3 : a = b := by
      apply UInt8.toNat_inj.1
      rw [UInt8.lt_iff_toNat_lt] at *; omega
     subst h3
     simp [h1]
     exact h
theorem inr_wrap {n : Int} (h : InR n) : IntKind.i64.wrap n = n := IntWalk.i64_in n h
theorem bin_int {op : BinOp} {t : TypeId} {x y : Operand} {k1 k2 : IntKind} {a b : Int} {c : Bool} {k : D → Prop} (h : binK c op (.v (.int k1 a)) (.v (.int k2 b)) k) :
  ∃ d, k d ∧ (c = true → ∃ u, d = .v u ∧ ∀ w, (do eqGuard op t x y (.int k1 a) (.int k2 b); binOp op t (.int k1 a) (.int k2 b) : Sem Value).run P w = .ok u w) := by
 cases op <;> simp only [binK, cmpI, arI] at h
 case shr =>
  exact ⟨_, h.2, fun hc => ⟨_, rfl, fun w => by
   have := h.1 hc
   simp [eqGuard, binOp, Op.shift, shrI]
   omega⟩⟩
 case shl =>
  exact ⟨_, h.2, fun hc => ⟨_, rfl, fun w => by
   have := h.1 hc
   simp [eqGuard, binOp, Op.shift, shlI]
   omega⟩⟩
 all_goals obtain ⟨rfl, h2⟩ := h
 case and => exact ⟨_, h2, fun hc => ⟨_, rfl, fun w => by simp [eqGuard, binOp, Op.intBits, andI]⟩⟩
 case or => exact ⟨_, h2, fun hc => ⟨_, rfl, fun w => by simp [eqGuard, binOp, Op.intBits, orI]⟩⟩
 case xor => exact ⟨_, h2, fun hc => ⟨_, rfl, fun w => by simp [eqGuard, binOp, Op.intBits, xorI]⟩⟩
 case add =>
  split at h2
  ·rename_i e; subst e; exact ⟨_, h2.2, fun hc => ⟨_, rfl, fun w => by simp [eqGuard_add, binOp_add, Op.intArith, inr_wrap (h2.1 hc)]⟩⟩
  ·exact ⟨_, h2, fun hc => ⟨_, rfl, fun w => by simp [eqGuard_add, binOp_add, Op.intArith]⟩⟩
 case sub =>
  split at h2
  ·rename_i e; subst e; exact ⟨_, h2.2, fun hc => ⟨_, rfl, fun w => by simp [eqGuard_sub, binOp_sub, Op.intArith, inr_wrap (h2.1 hc)]⟩⟩
  ·exact ⟨_, h2, fun hc => ⟨_, rfl, fun w => by simp [eqGuard_sub, binOp_sub, Op.intArith]⟩⟩
 case mul =>
  split at h2
  ·rename_i e; subst e; exact ⟨_, h2.2, fun hc => ⟨_, rfl, fun w => by simp [eqGuard_mul, binOp_mul, Op.intArith, inr_wrap (h2.1 hc)]⟩⟩
  ·exact ⟨_, h2, fun hc => ⟨_, rfl, fun w => by simp [eqGuard_mul, binOp_mul, Op.intArith]⟩⟩
 case quo =>
  obtain ⟨hb, h2⟩ := h2
  split at h2
  ·rename_i e; subst e; exact ⟨_, h2.2, fun hc => ⟨_, rfl, fun w => by simp [eqGuard_quo, binOp_quo, Op.intDiv, hb hc, inr_wrap (h2.1 hc)]⟩⟩
  ·exact ⟨_, h2, fun hc => ⟨_, rfl, fun w => by simp [eqGuard_quo, binOp_quo, Op.intDiv, hb hc]⟩⟩
 case rem => exact ⟨_, h2.2, fun hc => ⟨_, rfl, fun w => by simp [eqGuard_rem, binOp_rem, Op.intDiv, h2.1 hc]⟩⟩
 case eql => exact ⟨_, h2, fun hc => ⟨_, rfl, fun w => by simp [eqGuard_at_int, binOp_eql]; rfl⟩⟩
 case neq => exact ⟨_, h2, fun hc => ⟨_, rfl, fun w => by simp [eqGuard_at_int, binOp_neq, bne]; rfl⟩⟩
 case lss => exact ⟨_, h2, fun hc => ⟨_, rfl, fun w => by simp [eqGuard_lss, binOp_lss]⟩⟩
 case leq => exact ⟨_, h2, fun hc => ⟨_, rfl, fun w => by simp [eqGuard_leq, binOp_leq]⟩⟩
 case gtr => exact ⟨_, h2, fun hc => ⟨_, rfl, fun w => by simp [eqGuard_gtr, binOp_gtr]⟩⟩
 case geq => exact ⟨_, h2, fun hc => ⟨_, rfl, fun w => by simp [eqGuard_geq, binOp_geq]⟩⟩
 all_goals exact h2.elim
theorem eqIn_bool {t : TypeId} (ht : P.underlying t = some .bool) (d : Nat) (a b : Bool) (w : World) : (Op.equalIn (d + 1) t (.bool a) (.bool b)).run P w = .ok (a == b) w := by
 simp [Op.equalIn, run_underlying ht]
theorem bin_bool {op : BinOp} {t : TypeId} {x y : Operand} {a b : Bool} {c : Bool} {k : D → Prop} (ht : P.underlying t = some .bool) (h : binK c op (.v (.bool a)) (.v (.bool b)) k) :
  ∃ d, k d ∧ (c = true → ∃ u, d = .v u ∧ ∀ w, (do eqGuard op t x y (.bool a) (.bool b); binOp op t (.bool a) (.bool b) : Sem Value).run P w = .ok u w) := by
 cases op <;> simp only [binK] at h
 case eql => exact ⟨_, h, fun hc => ⟨_, rfl, fun w => by
  simp only [eqGuard_at_bool, binOp, Op.equal, Op.maxDepth]
  simp [eqIn_bool ht 9999]⟩⟩
 case neq => exact ⟨_, h, fun hc => ⟨_, rfl, fun w => by
  simp only [eqGuard_at_bool, binOp, Op.equal, Op.maxDepth]
  simp [eqIn_bool ht 9999, bne]⟩⟩
theorem bin_str {op : BinOp} {t : TypeId} {x y : Operand} {a b : ByteArray} {c : Bool} {k : D → Prop} (h : binK c op (.v (.string a)) (.v (.string b)) k) :
  ∃ d, k d ∧ (c = true → ∃ u, d = .v u ∧ ∀ w, (do eqGuard op t x y (.string a) (.string b); binOp op t (.string a) (.string b) : Sem Value).run P w = .ok u w) := by
 have tl : ∀ s : ByteArray, s.toList = s.data.toList := fun s => ByteArray.toList_eq s
 cases op <;> simp only [binK] at h
 case add => exact ⟨_, h.2, fun hc => ⟨_, rfl, fun w => by
  have := h.1 hc
  simp [eqGuard_at_string, binOp, Op.stringOp]
  omega⟩⟩
 case eql => exact ⟨_, h, fun hc => ⟨_, rfl, fun w => by simp [eqGuard_at_string, binOp, Op.stringOp, tl]⟩⟩
 case neq => exact ⟨_, h, fun hc => ⟨_, rfl, fun w => by simp [eqGuard_at_string, binOp, Op.stringOp, tl]⟩⟩
 case lss => exact ⟨_, h, fun hc => ⟨_, rfl, fun w => by simp [eqGuard_at_string, binOp, Op.stringOp, tl]⟩⟩
 case leq => exact ⟨_, h, fun hc => ⟨_, rfl, fun w => by simp [eqGuard_at_string, binOp, Op.stringOp, tl, ← bytesLess_total]⟩⟩
 case gtr => exact ⟨_, h, fun hc => ⟨_, rfl, fun w => by
  have e := bytesLess_total a.data.toList b.data.toList
  have e2 : Op.bytesLess b.data.toList a.data.toList = !(Op.bytesLess a.data.toList b.data.toList || a.data.toList == b.data.toList) := by rw [e]; simp
  rw [e2]
  simp [eqGuard_at_string, binOp, Op.stringOp, tl]⟩⟩
 case geq => exact ⟨_, h, fun hc => ⟨_, rfl, fun w => by simp [eqGuard_at_string, binOp, Op.stringOp, tl]⟩⟩
variable {P : Program}
/-! closed facts on types -/
def aggT : TypeDesc → Bool
 | .struct _ | .array _ _ => true
 | _ => false
def tyOf (P : Program) (t : TypeId) : Option (Bool × Nat) :=
 match P.underlying t, P.info? t with
 | some d, some i => some (aggT d, i.size)
 | _, _ => none
def fldOf (P : Program) (t : TypeId) (i : Nat) : Option (Nat × Bool × Nat) :=
 match P.underlying t with
 | some (.struct fs) =>
  match fs[i]? with
  | some f => match tyOf P f.type with
   | some (a, s) => some (f.offset, a, s)
   | none => none
  | none => none
 | _ => none
def slOf (P : Program) (t : TypeId) : Option (TypeId × Nat × Nat) :=
 match P.underlying t with
 | some (.slice e) => match P.info? e with
  | some i => some (e, i.size, i.bytes)
  | none => none
 | _ => none
def zeroOf (P : Program) (t : TypeId) : Option (List Value) :=
 match P.info? t with
 | some i => match i.zero with
  | some z => if z.cells.size = i.size then some z.cells.toList else none
  | none => none
 | none => none
theorem tyOf_spec {t : TypeId} {a : Bool} {s : Nat} (h : tyOf P t = some (a, s)) : ∃ d i, P.underlying t = some d ∧ P.info? t = some i ∧ aggT d = a ∧ i.size = s := by
 unfold tyOf at h
 split at h
 ·rename_i d i h1 h2
  simp only [Option.some.injEq, Prod.mk.injEq] at h
  exact ⟨d, i, h1, h2, h.1, h.2⟩
 ·cases h
theorem fldOf_spec {t : TypeId} {i o s : Nat} {a : Bool} (h : fldOf P t i = some (o, a, s)) : ∃ fs f, P.underlying t = some (.struct fs) ∧ fs[i]? = some f ∧ f.offset = o ∧ tyOf P f.type = some (a, s) := by
 unfold fldOf at h
 split at h
 ·rename_i fs h1
  split at h
  ·rename_i f h2
   split at h
   ·rename_i a' s' h3
    simp only [Option.some.injEq, Prod.mk.injEq] at h
    obtain ⟨rfl, rfl, rfl⟩ := h
    exact ⟨fs, f, h1, h2, rfl, h3⟩
   ·cases h
  ·cases h
 ·cases h
theorem slOf_spec {t e : TypeId} {s b : Nat} (h : slOf P t = some (e, s, b)) : ∃ i, P.underlying t = some (.slice e) ∧ P.info? e = some i ∧ i.size = s ∧ i.bytes = b := by
 unfold slOf at h
 split at h
 ·rename_i e' h1
  split at h
  ·rename_i i h2
   simp only [Option.some.injEq, Prod.mk.injEq] at h
   obtain ⟨rfl, rfl, rfl⟩ := h
   exact ⟨i, h1, h2, rfl, rfl⟩
  ·cases h
 ·cases h
def arrOf (P : Program) (t : TypeId) : Option (Nat × Nat) :=
 match P.underlying t with
 | some (.array n e) => match P.info? e with
  | some i => some (n, i.size)
  | none => none
 | _ => none
theorem arrOf_spec {t : TypeId} {m s : Nat} (h : arrOf P t = some (m, s)) : ∃ e i, P.underlying t = some (.array m e) ∧ P.info? e = some i ∧ i.size = s := by
 unfold arrOf at h
 split at h
 ·rename_i n e h1
  split at h
  ·rename_i i h2
   simp only [Option.some.injEq, Prod.mk.injEq] at h
   obtain ⟨rfl, rfl⟩ := h
   exact ⟨e, i, h1, h2, rfl⟩
  ·cases h
 ·cases h
theorem run_isAgg {t : TypeId} {a : Bool} {s : Nat} (h : tyOf P t = some (a, s)) (w : World) : (isAgg t).run P w = .ok a w := by
 obtain ⟨d, i, h1, _, h3, _⟩ := tyOf_spec h
 unfold isAgg
 simp only [Sem.run_bind, run_underlying h1, Result.andThen_ok]
 subst h3
 cases d <;> simp [aggT]
theorem run_sizeOf {t : TypeId} {a : Bool} {s : Nat} (h : tyOf P t = some (a, s)) (w : World) : (sizeOf t).run P w = .ok s w := by
 obtain ⟨d, i, _, h2, _, h4⟩ := tyOf_spec h
 simp [sizeOf, typeInfo, h2, h4]
theorem run_sizeOf' {e : TypeId} {i : TypeInfo} (h : P.info? e = some i) (w : World) : (sizeOf e).run P w = .ok i.size w := by
 simp [sizeOf, typeInfo, h]
theorem run_loadVar_cells {t : TypeId} {agg : Bool} {sz : Nat} (ht : tyOf P t = some (agg, sz)) (w : World) (b o : Nat) (us : Nat → Value) (hc : ∀ j, j < sz → w.cell? ⟨b, o + j, none⟩ = some (us j)) (h1 : agg = false → 0 < sz) :
  (loadVar t ⟨b, o, none⟩).run P w = .ok (if agg then .agg ((List.range sz).map us).toArray else us 0) w := by
 unfold loadVar
 simp only [Sem.run_bind, run_isAgg ht, Result.andThen_ok]
 cases agg with
 | true =>
  simp only [if_true, Sem.run_bind, run_sizeOf ht, Result.andThen_ok]
  have hl := run_loadCells (P := P) w ⟨b, o, none⟩ sz us (fun j hj => by rw [Addr.add_lit]; exact hc j hj)
  rw [hl]
  simp
 | false =>
  have := hc 0 (h1 rfl)
  rw [Nat.add_zero] at this
  simp [run_load, this]
section
variable {w0 : World} {B : Nat → Nat → Prop} {C0 : Ctx} {n : Nat} {S : St} {C : Ctx} {a : Act} {w : World}
theorem Same.cell {w w' : World} (h : Same w w') {p : Addr} {v : Value} (hc : w.cell? p = some v) : w'.cell? p = some v :=
 (World.cell?_of_block (h.2 p.block (cell_lt hc))).trans hc
def takeK (agg : Bool) (sz : Nat) (cs : List D) (k : D → Prop) : Prop :=
 if agg then sz ≤ cs.length ∧ k (.agg (cs.take sz))
 else match cs with
  | d :: _ => 0 < sz ∧ sz ≤ 1 ∧ k d
  | [] => False
def cellsAt (S : St) (d : D) : Option (List D) :=
 match d with
 | .rd cs => some cs
 | .ptr s g off =>
  match look S.heap s with
  | some (g', .box cs) => if g' = g then some (cs.drop off) else none
  | _ => none
 | .elt s g k i off =>
  match look S.heap s with
  | some (g', .row _ k' es) => if g' = g ∧ k' = k then match es[i]? with
   | some cs => some (cs.drop off)
   | none => none
   else none
  | _ => none
 | _ => none
theorem cellsAt_ok (I : Inv w0 B C0 n S C a w) {d : D} {cs : List D} {u : Value} (h : cellsAt S d = some cs) (hr : Rep C w d u) :
  ∃ (b o : Nat) (us : Nat → Value), u = .pointer (some ⟨b, o, none⟩) ∧ ∀ (j : Nat) c, cs[j]? = some c → w.cell? ⟨b, o + j, none⟩ = some (us j) ∧ Rep C w c (us j) := by
 cases d with
 | rd cs' =>
  simp only [cellsAt, Option.some.injEq] at h
  subst h
  cases hr with
  | rd _ b o us hc hh => exact ⟨b, o, us, rfl, fun j c hj => ⟨(hc j c hj).2, hh j c hj⟩⟩
 | ptr s g off =>
  cases hr with
  | ptr _ _ _ b hv =>
   simp only [cellsAt] at h
   split at h
   ·rename_i g' cs' hl
    split at h
    ·rename_i hg
     subst hg
     simp only [Option.some.injEq] at h
     subst h
     obtain ⟨b', arr, ty, hv', _, hb, hn, hall⟩ := I.heap s g' _ hl
     rw [hv] at hv'
     simp only [Option.some.injEq, Value.pointer.injEq, Addr.mk.injEq, and_true] at hv'
     subst hv'
     refine ⟨b, off, fun j => arr.getD (off + j) undef, rfl, fun j c hj => ?_⟩
     rw [List.getElem?_drop] at hj
     have hlt : off + j < arr.size := by rw [hn]; exact (List.getElem?_eq_some_iff.1 hj).1
     have hu : arr[off + j]? = some (arr[off + j]) := Array.getElem?_eq_getElem hlt
     rw [cell_of_row w b (off + j) arr ty (0, 0) hb, hu]
     have : arr.getD (off + j) undef = arr[off + j] := by simp [Array.getD, hlt]
     dsimp only
     rw [this]
     exact ⟨rfl, (hall _ _ _ hj hu).1⟩
    ·cases h
   ·cases h
 | elt s g k i off =>
  cases hr with
  | elt _ _ _ _ _ b m c hv =>
   simp only [cellsAt] at h
   split at h
   ·rename_i g' e' k' es hl
    split at h
    ·rename_i hg
     obtain ⟨rfl, rfl⟩ := hg
     split at h
     ·rename_i cs' hi
      simp only [Option.some.injEq] at h
      subst h
      obtain ⟨u, xs, hv', _, hown, hk, hall⟩ := I.heap s g' _ hl
      rw [hv] at hv'
      simp only [Option.some.injEq] at hv'
      subst hv'
      refine ⟨b, i * k' + off, fun j => xs.getD (i * k' + (off + j)) undef, rfl, fun j c hj => ?_⟩
      rw [List.getElem?_drop] at hj
      have hlen : cs'.length = k' := hk _ (List.mem_of_getElem? hi)
      have h1 : off + j < k' := by rw [← hlen]; exact (List.getElem?_eq_some_iff.1 hj).1
      have h2 : i < es.length := (List.getElem?_eq_some_iff.1 hi).1
      have h3 : i * k' + (off + j) < xs.length := by
       rw [hown.1]
       calc i * k' + (off + j) < i * k' + k' := by omega
        _ = (i + 1) * k' := by rw [Nat.add_mul]; omega
        _ ≤ es.length * k' := Nat.mul_le_mul_right _ h2
      have hx : xs[i * k' + (off + j)]? = some (xs[i * k' + (off + j)]) := List.getElem?_eq_getElem h3
      have hcell := hown.cells (g := b) rfl _ _ hx
      rw [Addr.add_lit, Nat.zero_add] at hcell
      have : xs.getD (i * k' + (off + j)) undef = xs[i * k' + (off + j)] := by simp [List.getD, hx]
      dsimp only
      rw [this, show i * k' + off + j = i * k' + (off + j) from by omega]
      exact ⟨hcell, (hall i (off + j) cs' c _ hi hj hx).1⟩
     ·cases h
    ·cases h
   ·cases h
 | _ => simp [cellsAt] at h
theorem load_ok (I : Inv w0 B C0 n S C a w) {t : TypeId} {agg : Bool} {sz : Nat} (ht : tyOf P t = some (agg, sz)) {d : D} {cs : List D} {u : Value} {k : D → Prop}
  (h : cellsAt S d = some cs) (hk : takeK agg sz cs k) : ∃ d', k d' ∧ (Rep C w d u → ∃ u', Rep C w d' u' ∧ ∀ w', Same w w' → (Instr.loadAt t u).run P w' = .ok u' w') := by
 unfold takeK at hk
 cases agg with
 | true =>
  simp only [if_true] at hk
  obtain ⟨hsz, hk⟩ := hk
  refine ⟨_, hk, fun hr => ?_⟩
  obtain ⟨b, o, us, rfl, hall⟩ := cellsAt_ok I h hr
  refine ⟨.agg ((List.range sz).map us).toArray, .agg _ _ (by simp; omega) (fun j c u hj hu => ?_), fun w' hs => ?_⟩
  ·have hj' : j < sz := by
    have := (List.getElem?_eq_some_iff.1 hj).1
    simp at this; omega
   rw [List.getElem?_take, if_pos hj'] at hj
   simp [hj'] at hu
   rw [← hu]
   exact (hall j c hj).2
  ·simp only [Instr.loadAt, Instr.sureAddr, Sem.run_bind, Sem.run_pure, Result.andThen_ok]
   rw [run_loadVar_cells ht w' b o us (fun j hj => hs.cell (hall j _ (List.getElem?_eq_getElem (by omega))).1) (by simp)]
   simp
 | false =>
  simp only [Bool.false_eq_true, if_false] at hk
  split at hk
  ·rename_i d' rest
   refine ⟨_, hk.2.2, fun hr => ?_⟩
   obtain ⟨b, o, us, rfl, hall⟩ := cellsAt_ok I h hr
   have h0 := hall 0 d' rfl
   refine ⟨_, h0.2, fun w' hs => ?_⟩
   simp only [Instr.loadAt, Instr.sureAddr, Sem.run_bind, Sem.run_pure, Result.andThen_ok]
   have hz : sz = 1 := by have := hk.1; have := hk.2.1; omega
   subst hz
   rw [run_loadVar_cells ht w' b o us (fun j hj => (show j = 0 by omega) ▸ hs.cell h0.1) (by simp)]
   simp
  ·exact hk.elim
end
variable {P : Program}
/-! the values of the quiet operations -/
def fieldAddrK (o : Nat) (d : D) (k : D → Prop) : Prop :=
 match d with
 | .rd cs => k (.rd (cs.drop o))
 | .ptr s g off => k (.ptr s g (off + o))
 | .elt s g k' i off => k (.elt s g k' i (off + o))
 | .v (.pointer (some ad)) => ad.spot = none ∧ k (.v (.pointer (some ⟨ad.block, ad.off + o, none⟩)))
 | _ => False
def rowOf (S : St) (s g : Nat) : Option (Nat × Nat × List (List D)) :=
 match look S.heap s with
 | some (g', .row e k es) => if g' = g then some (e, k, es) else none
 | _ => none
def frozOf (S : St) (s g : Nat) : Option (Nat × List (List D)) :=
 match look S.heap s with
 | some (g', .froz k es) => if g' = g then some (k, es) else none
 | _ => none
def idxK (c : Bool) (S : St) (sz : Nat) (d : D) (i : Int) (k : D → Prop) : Prop :=
 match d with
 | .sl k' es => k' = sz ∧ match es[i.toNat]? with
  | some e => (c = true → 0 ≤ i) ∧ k (.rd e)
  | none => False
 | .own s g =>
  match rowOf S s g with
  | some (_, k', es) => k' = sz ∧ (c = true → 0 ≤ i ∧ i.toNat < es.length) ∧ k (.elt s g k' i.toNat 0)
  | none =>
   match frozOf S s g with
   | some (k', es) => k' = sz ∧ match es[i.toNat]? with
    | some e => (c = true → 0 ≤ i) ∧ k (.rd e)
    | none => False
   | none => False
 | _ => False
def lenK (S : St) (d : D) (k : D → Prop) : Prop :=
 match d with
 | .v (.string s) => k (.v (.int .i64 s.size))
 | .v (.slice none 0 0) => k (.v (.int .i64 0))
 | .sl _ es => k (.v (.int .i64 es.length))
 | .own s g =>
  match rowOf S s g with
  | some (_, _, es) => k (.v (.int .i64 es.length))
  | none =>
   match frozOf S s g with
   | some (_, es) => k (.v (.int .i64 es.length))
   | none => False
 | _ => False
section
variable {w0 : World} {B : Nat → Nat → Prop} {C0 : Ctx} {n : Nat} {S : St} {C : Ctx} {a : Act} {w : World}
theorem fieldAddr_ok {t : TypeId} {i o s : Nat} {agg : Bool} (hf : fldOf P t i = some (o, agg, s)) (hs : s ≠ 0) {d : D} {u : Value} {k : D → Prop} (h : fieldAddrK o d k) :
  ∃ d', k d' ∧ (Rep C w d u → ∃ u', Rep C w d' u' ∧ ∀ w', (Instr.fieldAt t u i).run P w' = .ok u' w') := by
 obtain ⟨fs, f, h1, h2, rfl, h4⟩ := fldOf_spec hf
 have run : ∀ b o', ∀ w', (Instr.fieldAt t (.pointer (some ⟨b, o', none⟩)) i).run P w' = .ok (.pointer (some ⟨b, o' + f.offset, none⟩)) w' := fun b o' w' => by
  simp [Instr.fieldAt, run_underlying h1, h2, Instr.sureAddr, fieldPlace, run_sizeOf h4, hs, Addr.add_lit]
 cases d with
 | rd cs =>
  refine ⟨_, h, fun hr => ?_⟩
  cases hr with
  | rd _ b o us hc hh =>
   refine ⟨_, .rd _ b (o + f.offset) (fun j => us (f.offset + j)) (fun j c hj => ?_) (fun j c hj => ?_), run b o⟩
   ·rw [List.getElem?_drop] at hj
    rw [Nat.add_assoc]
    exact hc _ _ hj
   ·rw [List.getElem?_drop] at hj
    exact hh _ _ hj
 | ptr s g off =>
  refine ⟨_, h, fun hr => ?_⟩
  cases hr with
  | ptr _ _ _ b hv => exact ⟨_, .ptr _ _ _ b hv, run b off⟩
 | elt s g k' i' off =>
  refine ⟨_, h, fun hr => ?_⟩
  cases hr with
  | elt _ _ _ _ _ b n c hv =>
   refine ⟨_, .elt _ _ _ _ _ b n c hv, fun w' => ?_⟩
   rw [run]
   simp [Nat.add_assoc]
 | v x =>
  cases x with
  | pointer q =>
   cases q with
   | none => exact h.elim
   | some ad =>
    obtain ⟨hsp, h⟩ := h
    refine ⟨_, h, fun hr => ?_⟩
    obtain rfl := hr.v_inv
    obtain ⟨b, o', sp⟩ := ad
    simp only at hsp
    subst hsp
    exact ⟨_, .v _, run b o'⟩
  | _ => exact h.elim
 | _ => exact h.elim
theorem arrAddr_ok {t : TypeId} {m sz : Nat} {ik : IntKind} {i : Int} (ha : arrOf P t = some (m, sz)) {d : D} {u : Value} {k : D → Prop} (h : fieldAddrK (i.toNat * sz) d k) :
  ∃ d', k d' ∧ (0 ≤ i ∧ i.toNat < m → Rep C w d u → ∃ u', Rep C w d' u' ∧ ∀ w', (Instr.indexAt t u (.int ik i)).run P w' = .ok u' w') := by
 obtain ⟨e, ie, h1, h2, h3⟩ := arrOf_spec ha
 have run : (0 ≤ i ∧ i.toNat < m) → ∀ b o', ∀ w', (Instr.indexAt t (.pointer (some ⟨b, o', none⟩)) (.int ik i)).run P w' = .ok (.pointer (some ⟨b, o' + i.toNat * sz, none⟩)) w' := fun hi b o' w' => by
  have hlt' : 0 ≤ i ∧ i < (m : Int) := ⟨hi.1, by omega⟩
  simp [Instr.indexAt, run_underlying h1, asIntOf, hlt', run_sizeOf' h2, h3, Instr.sureAddr, Addr.add_lit]
 cases d with
 | rd cs =>
  refine ⟨_, h, fun hi hr => ?_⟩
  cases hr with
  | rd _ b o us hc hh =>
   refine ⟨_, .rd _ b (o + i.toNat * sz) (fun j => us (i.toNat * sz + j)) (fun j c hj => ?_) (fun j c hj => ?_), run hi b o⟩
   ·rw [List.getElem?_drop] at hj
    rw [Nat.add_assoc]
    exact hc _ _ hj
   ·rw [List.getElem?_drop] at hj
    exact hh _ _ hj
 | ptr s g off =>
  refine ⟨_, h, fun hi hr => ?_⟩
  cases hr with
  | ptr _ _ _ b hv => exact ⟨_, .ptr _ _ _ b hv, run hi b off⟩
 | elt s g k' i' off =>
  refine ⟨_, h, fun hi hr => ?_⟩
  cases hr with
  | elt _ _ _ _ _ b n c hv =>
   refine ⟨_, .elt _ _ _ _ _ b n c hv, fun w' => ?_⟩
   rw [run hi]
   simp [Nat.add_assoc]
 | v x =>
  cases x with
  | pointer q =>
   cases q with
   | none => exact h.elim
   | some ad =>
    obtain ⟨hsp, h⟩ := h
    refine ⟨_, h, fun hi hr => ?_⟩
    obtain rfl := hr.v_inv
    obtain ⟨b, o', sp⟩ := ad
    simp only at hsp
    subst hsp
    exact ⟨_, .v _, run hi b o'⟩
  | _ => exact h.elim
 | _ => exact h.elim
theorem ownsRow_val {w : World} {e k : Nat} {u : Value} {m : Nat} {xs : List Value} (h : w.ownsRow 0 e k u m xs) (hm : 0 < m) :
  ∃ b cap, u = .slice (some ⟨b, 0, none⟩) m cap := by
 rcases h.2 with ⟨_, h0⟩ | ⟨g, cap, cur, hv, _⟩
 ·omega
 ·exact ⟨g, cap, hv⟩
theorem ownsRow_slice {w : World} {e k : Nat} {u : Value} {m : Nat} {xs : List Value} (h : w.ownsRow 0 e k u m xs) :
  ∃ ao cap, u = .slice ao m cap ∧ m ≤ cap ∧ cap ≤ maxLen := by
 rcases h.2 with ⟨rfl, rfl⟩ | ⟨g, cap, cur, hv, _, _, h1, h2, _⟩
 ·exact ⟨none, 0, rfl, Nat.le_refl _, by simp⟩
 ·exact ⟨_, cap, hv, h1, h2⟩
theorem rowOf_spec {s g e k : Nat} {es : List (List D)} (h : rowOf S s g = some (e, k, es)) : look S.heap s = some (g, .row e k es) := by
 unfold rowOf at h
 split at h
 ·rename_i g' e' k' es' hl
  split at h
  ·rename_i hg
   subst hg
   simp only [Option.some.injEq, Prod.mk.injEq] at h
   obtain ⟨rfl, rfl, rfl⟩ := h
   exact hl
  ·cases h
 ·cases h
theorem frozOf_spec {s g k : Nat} {es : List (List D)} (h : frozOf S s g = some (k, es)) : look S.heap s = some (g, .froz k es) := by
 unfold frozOf at h
 split at h
 ·rename_i g' k' es' hl
  split at h
  ·rename_i hg
   subst hg
   simp only [Option.some.injEq, Prod.mk.injEq] at h
   obtain ⟨rfl, rfl⟩ := h
   exact hl
  ·cases h
 ·cases h
theorem idx_sl {t e : TypeId} {sz by' : Nat} (ht : slOf P t = some (e, sz, by')) {ik : IntKind} {i : Int} {k' : Nat} {es : List (List D)} {el : List D} (hk' : k' = sz) (hi0 : 0 ≤ i) (hi : es[i.toNat]? = some el) {u : Value} (hr : Rep C w (.sl k' es) u) :
  ∃ u', Rep C w (.rd el) u' ∧ ∀ w', (Instr.indexAt t u (.int ik i)).run P w' = .ok u' w' := by
 obtain ⟨inf, h1, h2, h3, _⟩ := slOf_spec ht
 subst hk'
 have hlt := (List.getElem?_eq_some_iff.1 hi).1
 cases hr with
 | slE => simp at hi
 | sl _ _ b o cap us hl hm hk hc hh =>
  refine ⟨_, .rd _ b (o + i.toNat * k') (fun j => us i.toNat j) (fun j c hj => ?_) (fun j c hj => hh _ _ _ _ hi hj), fun w' => ?_⟩
  ·rw [Nat.add_assoc]; exact hc _ _ _ _ hi hj
  ·have hlt' : 0 ≤ i ∧ i < (es.length : Int) := ⟨hi0, by omega⟩
   simp [Instr.indexAt, run_underlying h1, asIntOf, hlt', run_sizeOf' h2, h3, Addr.add_lit]
theorem idx_ok (I : Inv w0 B C0 n S C a w) {t e : TypeId} {sz by' : Nat} (ht : slOf P t = some (e, sz, by')) {c : Bool} {d : D} {ik : IntKind} {i : Int} {u : Value} {k : D → Prop}
  (h : idxK c S sz d i k) : ∃ d', k d' ∧ (c = true → Rep C w d u → ∃ u', Rep C w d' u' ∧ ∀ w', (Instr.indexAt t u (.int ik i)).run P w' = .ok u' w') := by
 cases d with
 | sl k' es =>
  obtain ⟨hk, h⟩ := h
  cases hi : es[i.toNat]? with
  | none => rw [hi] at h; exact h.elim
  | some el =>
   rw [hi] at h
   exact ⟨_, h.2, fun hc hr => idx_sl ht hk (h.1 hc) hi hr⟩
 | own s g =>
  simp only [idxK] at h
  split at h
  ·rename_i e' k' es hro
   refine ⟨_, h.2.2, fun hc hr => ?_⟩
   obtain ⟨hk, h', _⟩ := h
   obtain ⟨h0, hlt⟩ := h' hc
   subst hk
   obtain ⟨inf, h1, h2, h3, _⟩ := slOf_spec ht
   obtain ⟨u', xs, hv, _, hown, _, _⟩ := I.heap s g _ (rowOf_spec hro)
   cases hr with
   | own _ _ _ hv' _ =>
    rw [hv] at hv'
    simp only [Option.some.injEq] at hv'
    subst hv'
    obtain ⟨b, cap, rfl⟩ := ownsRow_val hown (by omega)
    refine ⟨_, .elt s g k' i.toNat 0 b _ _ hv, fun w' => ?_⟩
    have hlt' : 0 ≤ i ∧ i < (es.length : Int) := ⟨h0, by omega⟩
    simp [Instr.indexAt, run_underlying h1, asIntOf, hlt', run_sizeOf' h2, h3, Addr.add_lit]
  ·split at h
   ·rename_i k' es hfr
    obtain ⟨hk, h⟩ := h
    cases hi : es[i.toNat]? with
    | none => rw [hi] at h; exact h.elim
    | some el =>
     rw [hi] at h
     refine ⟨_, h.2, fun hc hr => ?_⟩
     obtain ⟨u', hv, hrep⟩ := I.heap s g _ (frozOf_spec hfr)
     cases hr with
     | own _ _ _ hv' _ =>
      rw [hv] at hv'
      simp only [Option.some.injEq] at hv'
      subst hv'
      exact idx_sl ht hk (h.1 hc) hi hrep
   ·exact h.elim
 | _ => exact h.elim
theorem len_sl {k : Nat} {es : List (List D)} {u : Value} (hr : Rep C w (.sl k es) u) : ∃ ao cap, u = .slice ao es.length cap ∧ es.length ≤ cap ∧ cap ≤ maxLen := by
 cases hr with
 | slE _ a cap hm => exact ⟨_, _, rfl, Nat.zero_le _, hm⟩
 | sl _ _ b o cap us hl hm hk hc hh => exact ⟨_, _, rfl, hl, hm⟩
theorem len_ok (I : Inv w0 B C0 n S C a w) {t ty : TypeId} {d : D} {u : Value} {k : D → Prop}
  (h : lenK S d k) (hty : ∀ s, d = .v (.string s) → P.underlying t = some .string) (hty' : (∀ s, d ≠ .v (.string s)) → ∃ e, P.underlying t = some (.slice e)) :
  ∃ d', k d' ∧ (Rep C w d u → ∃ u', Rep C w d' u' ∧ ∀ w', (Builtin.len_ #[t] ty #[u]).run P w' = .ok u' w') := by
 have slrun : ∀ ao m cap e, P.underlying t = some (.slice e) → ∀ w', (Builtin.len_ #[t] ty #[.slice ao m cap]).run P w' = .ok (.int .i64 m) w' := fun ao m cap e he w' => by
  simp [Builtin.len_, run_underlying he, goInt]
 cases d with
 | v x =>
  cases x with
  | string s =>
   refine ⟨_, h, fun hr => ?_⟩
   obtain rfl := hr.v_inv
   exact ⟨_, .v _, fun w' => by simp [Builtin.len_, run_underlying (hty s rfl), goInt]⟩
  | slice ao m cap =>
   unfold lenK at h
   split at h <;> try (rename_i heq; cases heq)
   ·refine ⟨_, h, fun hr => ?_⟩
    obtain rfl := hr.v_inv
    obtain ⟨e, he⟩ := hty' (by simp)
    exact ⟨_, .v _, slrun _ _ _ e he⟩
   ·exact h.elim
  | _ => exact h.elim
 | sl k' es =>
  refine ⟨_, h, fun hr => ?_⟩
  obtain ⟨ao, cap, rfl, _, _⟩ := len_sl hr
  obtain ⟨e, he⟩ := hty' (by simp)
  exact ⟨_, .v _, slrun _ _ _ e he⟩
 | own s g =>
  obtain ⟨e, he⟩ := hty' (by simp)
  simp only [lenK] at h
  split at h
  ·rename_i e' k' es hro
   refine ⟨_, h, fun hr => ?_⟩
   obtain ⟨u', xs, hv, _, hown, _, _⟩ := I.heap s g _ (rowOf_spec hro)
   cases hr with
   | own _ _ _ hv' _ =>
    rw [hv] at hv'
    simp only [Option.some.injEq] at hv'
    subst hv'
    obtain ⟨ao, cap, rfl, _⟩ := ownsRow_slice hown
    exact ⟨_, .v _, slrun _ _ _ e he⟩
  ·split at h
   ·rename_i k' es hfr
    refine ⟨_, h, fun hr => ?_⟩
    obtain ⟨u', hv, hrep⟩ := I.heap s g _ (frozOf_spec hfr)
    cases hr with
    | own _ _ _ hv' _ =>
     rw [hv] at hv'
     simp only [Option.some.injEq] at hv'
     subst hv'
     obtain ⟨ao, cap, rfl, _⟩ := len_sl hrep
     exact ⟨_, .v _, slrun _ _ _ e he⟩
   ·exact h.elim
 | _ => exact h.elim
end
variable {P : Program}
def cellsOfD : D → List D
 | .agg cs => cs
 | d => [d]
def cellOk : D → Bool
 | .v x => x.oneCell'
 | .agg _ => true
 | .sl _ _ | .own _ _ | .ptr _ _ _ | .elt _ _ _ _ _ | .rd _ | .fn _ _ | .ifc _ _ | .sub _ _ _ | .mfn _ _ => true
 | _ => false
def oneD : D → Bool
 | .v x => x.oneCell'
 | .sl _ _ | .own _ _ | .ptr _ _ _ | .elt _ _ _ _ _ | .rd _ | .fn _ _ | .ifc _ _ | .sub _ _ _ | .mfn _ _ => true
 | _ => false
def putAt (cells : List D) (off : Nat) (new : List D) : List D := cells.take off ++ (new ++ cells.drop (off + new.length))
def fillD (place : List (Nat × Nat)) (cells : List D) : List (Nat × D) → Option (List D)
 | [] => some cells
 | (i, d) :: rest =>
  match place[i]? with
  | none => none
  | some (off, size) => if (cellsOfD d).length = size ∧ off + size ≤ cells.length ∧ cellOk d = true then fillD place (putAt cells off (cellsOfD d)) rest else none
def bldOf (P : Program) (t : TypeId) : Option (List (Nat × Nat) × List Value) :=
 match P.info? t, P.underlying t with
 | some it, some (.struct fields) =>
  match it.zero, fields.toList.mapM (fun f => (P.info? f.type).map fun i => (f.offset, i.size)) with
  | some z, some places => some (places, z.cells.toList)
  | _, _ => none
 | some it, some (.array n e) =>
  match it.zero, P.info? e with
  | some z, some ie => some ((List.range n).map fun i => (i * ie.size, ie.size), z.cells.toList)
  | _, _ => none
 | _, _ => none
theorem fill_mono {p q : Nat → Option (Nat × Nat)} (hpq : ∀ i x, p i = some x → q i = some x) : ∀ (parts : List (Nat × Value)) (cells r : Array Value), Instr.fill p cells parts = some r → Instr.fill q cells parts = some r
 | [], cells, r, h => by simpa [Instr.fill] using h
 | (i, v) :: rest, cells, r, h => by
  unfold Instr.fill at h ⊢
  cases hp : p i with
  | none => rw [hp] at h; simp at h
  | some x =>
   rw [hp] at h
   rw [hpq i x hp]
   obtain ⟨o, sz⟩ := x
   simp only at h ⊢
   split at h
   ·cases h
   ·rename_i hc
    rw [if_neg hc]
    exact fill_mono hpq rest _ r h
theorem bldOf_spec {t : TypeId} {places : List (Nat × Nat)} {zs : List Value} (h : bldOf P t = some (places, zs)) (parts : List (Nat × Value)) {r : Array Value} (hr : Instr.fill (places[·]?) zs.toArray parts = some r) :
  P.built t parts = some r := by
 unfold bldOf at h
 unfold Program.built
 split at h
 ·rename_i it fields h1 h2
  rw [h1, h2]
  simp only
  split at h
  ·rename_i z pl h3 h4
   simp only [Option.some.injEq, Prod.mk.injEq] at h
   obtain ⟨rfl, rfl⟩ := h
   rw [h3, h4]
   simpa using hr
  ·cases h
 ·rename_i it n e h1 h2
  rw [h1, h2]
  simp only
  split at h
  ·rename_i z ie h3 h4
   simp only [Option.some.injEq, Prod.mk.injEq] at h
   obtain ⟨rfl, rfl⟩ := h
   rw [h3, h4]
   refine fill_mono (fun i x hx => ?_) parts _ _ (by simpa using hr)
   replace hx : Option.map (fun i => (i * ie.size, ie.size)) (List.range n)[i]? = some x := by
    first | exact hx | (rw [← List.getElem?_map]; exact hx)
   cases hi : (List.range n)[i]? with
   | none => rw [hi] at hx; cases hx
   | some j =>
    rw [hi] at hx
    have : j = i := by
     have := List.getElem?_eq_some_iff.1 hi
     obtain ⟨_, h⟩ := this
     simpa using h.symm
    subst this
    simpa using hx
  ·cases h
 ·cases h
section
variable {w0 : World} {B : Nat → Nat → Prop} {C0 : Ctx} {n : Nat} {S : St} {C : Ctx} {a : Act} {w : World}
def Cells (C : Ctx) (w : World) (cs : List D) (us : List Value) : Prop := us.length = cs.length ∧ ∀ (j : Nat) c u, cs[j]? = some c → us[j]? = some u → Rep C w c u
theorem cells_one {x : Value} (h : x.oneCell' = true) : x.cells = #[x] := by cases x <;> simp_all [Value.cells, Value.oneCell']
theorem Rep.oneV {d : D} {u : Value} (ho : oneD d = true) (hr : Rep C w d u) : u.oneCell' = true := by
 cases hr <;> first | rfl | assumption | (simp [oneD] at ho; done) | (simpa [oneD] using ho)
theorem oneD_cells {d : D} (ho : oneD d = true) : cellsOfD d = [d] := by cases d <;> first | rfl | (simp [oneD] at ho)
theorem Cells.of_rep {d : D} {u : Value} (ho : cellOk d = true) (hr : Rep C w d u) : Cells C w (cellsOfD d) u.cells.toList := by
 by_cases h1 : oneD d = true
 ·rw [cells_one (hr.oneV h1), oneD_cells h1]
  refine ⟨rfl, fun j c u' hj hu => ?_⟩
  match j, hj, hu with
  | 0, hj, hu => simp at hj hu; subst hj; subst hu; exact hr
  | j + 1, hj, _ => simp at hj
 ·cases hr with
  | agg cs us hn h =>
   refine ⟨by simp [Value.cells, cellsOfD, hn], fun j c u hj hu => ?_⟩
   simp only [cellsOfD, Value.cells] at hj hu
   exact h j c u hj (by simpa using hu)
  | v x => simp [cellOk] at ho; simp [oneD, ho] at h1
  | tup | whenT | whenF => simp [cellOk] at ho
  | own | ptr | elt | rd | slE | sl | fn | ifc | sub | mfn => simp [oneD] at h1
  | slc => simp [cellOk] at ho
theorem Cells.vals (zs : List Value) : Cells C w (zs.map .v) zs := by
 refine ⟨by simp, fun j c u hj hu => ?_⟩
 rw [List.getElem?_map, hu] at hj
 simp at hj
 subst hj
 exact .v _
theorem fold_setL (vs : List Value) : ∀ (o : Nat) (arr : Array Value) (i : Nat), o + i + vs.length ≤ arr.size →
  ((vs.zipIdx i).foldl (fun cs (x : Value × Nat) => cs.setIfInBounds (o + x.2) x.1) arr).toList = arr.toList.take (o + i) ++ (vs ++ arr.toList.drop (o + i + vs.length)) := by
 induction vs with
 | nil => intro o arr i h; simp
 | cons x vs ih =>
  intro o arr i h
  simp only [List.length_cons] at h
  have := ih o (arr.setIfInBounds (o + i) x) (i + 1) (by simp; omega)
  simp only [List.zipIdx_cons, List.foldl_cons, List.length_cons] at this ⊢
  rw [this]
  simp only [Array.toList_setIfInBounds, List.cons_append]
  rw [List.take_set, List.drop_set]
  rw [if_pos (by omega)]
  have hlt : o + i < arr.toList.length := by simp; omega
  have e2 : (arr.toList.take (o + (i + 1))) = arr.toList.take (o + i) ++ [arr.toList[o + i]] := by
   rw [← Nat.add_assoc, List.take_succ_eq_append_getElem hlt]
  rw [e2, List.set_append_right _ _ (by simp; omega)]
  simp only [List.length_take]
  rw [show o + i - min (o + i) arr.toList.length = 0 from by omega]
  simp [show o + (i + 1) + vs.length = o + i + (vs.length + 1) from by omega]
theorem fold_set (vs : Array Value) (o : Nat) (arr : Array Value) (h : o + vs.size ≤ arr.size) :
  (vs.zipIdx.foldl (fun cs (x : Value × Nat) => cs.setIfInBounds (o + x.2) x.1) arr).toList = arr.toList.take o ++ (vs.toList ++ arr.toList.drop (o + vs.toList.length)) := by
 rw [← Array.foldl_toList, Array.toList_zipIdx]
 simpa using fold_setL vs.toList o arr 0 (by simpa using h)
theorem Cells.putAt {cs new : List D} {us vs : List Value} (h : Cells C w cs us) (hn : Cells C w new vs) (o : Nat) (ho : o + new.length ≤ cs.length) :
  Cells C w (putAt cs o new) (us.take o ++ (vs ++ us.drop (o + vs.length))) := by
 refine ⟨?_, fun j c u hj hu => ?_⟩
 ·simp only [Eng.putAt, List.length_append, List.length_take, List.length_drop, h.1, hn.1]
 ·unfold Eng.putAt at hj
  have hlt : (cs.take o).length = o := by simp; omega
  have hlt' : (us.take o).length = o := by have := h.1; simp; omega
  rw [List.getElem?_append, hlt] at hj
  rw [List.getElem?_append, hlt'] at hu
  split at hj
  ·rename_i hjo
   rw [if_pos hjo] at hu
   rw [List.getElem?_take, if_pos hjo] at hj hu
   exact h.2 j c u hj hu
  ·rename_i hjo
   rw [if_neg hjo] at hu
   rw [List.getElem?_append] at hj hu
   rw [hn.1] at hu
   split at hj
   ·rename_i h2
    rw [if_pos h2] at hu
    exact hn.2 _ c u hj hu
   ·rename_i h2
    rw [if_neg h2] at hu
    rw [List.getElem?_drop] at hj hu
    exact h.2 _ c u hj hu
theorem fill_ok {place : List (Nat × Nat)} : ∀ (parts : List (Nat × D)) (vparts : List (Nat × Value)) (cs : List D) (us : Array Value) (out : List D),
  fillD place cs parts = some out → Cells C w cs us.toList → (parts.map (·.1) = vparts.map (·.1)) → (∀ (j : Nat) p q, parts[j]? = some p → vparts[j]? = some q → Rep C w p.2 q.2) →
  ∃ r, Instr.fill (place[·]?) us vparts = some r ∧ Cells C w out r.toList := by
 intro parts
 induction parts with
 | nil =>
  intro vparts cs us out h hc hm _
  cases vparts with
  | nil => simp only [fillD, Option.some.injEq] at h; subst h; exact ⟨us, rfl, hc⟩
  | cons q vs => simp at hm
 | cons p parts ih =>
  intro vparts cs us out h hc hm hr
  cases vparts with
  | nil => simp at hm
  | cons q vs =>
   obtain ⟨i, d⟩ := p
   obtain ⟨i', u⟩ := q
   simp only [List.map_cons, List.cons.injEq] at hm
   obtain ⟨rfl, hm⟩ := hm
   have hd : Rep C w d u := hr 0 _ _ rfl rfl
   simp only [fillD] at h
   cases hp : place[i]? with
   | none => rw [hp] at h; cases h
   | some x =>
    obtain ⟨off, size⟩ := x
    rw [hp] at h
    simp only at h
    split at h
    ·rename_i hcond
     obtain ⟨h1, h2, h3⟩ := hcond
     have hcu := Cells.of_rep h3 hd
     have hsz : u.cells.size = size := by rw [← h1, ← hcu.1]; simp
     have hus : us.size = cs.length := by rw [← hc.1]; simp
     have hfold := fold_set u.cells off us (by omega)
     have hnew := Cells.putAt (o := off) hc hcu (by rw [h1]; exact h2)
     rw [← hfold] at hnew
     obtain ⟨r, hr1, hr2⟩ := ih vs _ _ out h hnew hm (fun j p q hj hq => hr (j + 1) p q (by simpa using hj) (by simpa using hq))
     refine ⟨r, ?_, hr2⟩
     have hcn : (decide (u.cells.size ≠ size) || decide (off + u.cells.size > us.size)) = false := by simp; omega
     simp only [Instr.fill, hp, hcn]
     exact hr1
    ·cases h
end
variable {P : Program}
def upTo (hi : Option Int) (es : List (List D)) : List (List D) := match hi with | some h => es.take h.toNat | none => es
def cutK (c : Bool) (S : St) (d : D) (lo hi : Option Int) (k : D → Prop) : Prop :=
 match d with
 | .v (.string s) =>
  (c = true → 0 ≤ lo.getD 0 ∧ lo.getD 0 ≤ hi.getD s.size ∧ hi.getD s.size ≤ s.size) ∧ k (.v (.string (s.extract (lo.getD 0).toNat (hi.getD s.size).toNat)))
 | .sl k' es =>
  (c = true → 0 ≤ lo.getD 0 ∧ lo.getD 0 ≤ hi.getD es.length ∧ hi.getD es.length ≤ es.length) ∧
   k (.sl k' ((upTo hi es).drop (lo.getD 0).toNat))
 | .own s g =>
  match frozOf S s g with
  | some (k', es) =>
   (c = true → 0 ≤ lo.getD 0 ∧ lo.getD 0 ≤ hi.getD es.length ∧ hi.getD es.length ≤ es.length) ∧
    k (.sl k' ((upTo hi es).drop (lo.getD 0).toNat))
  | none => False
 | _ => False
section
variable {w0 : World} {B : Nat → Nat → Prop} {C0 : Ctx} {n : Nat} {S : St} {C : Ctx} {a : Act} {w : World}
theorem Rep.cutSl {k : Nat} {es : List (List D)} {b o cap : Nat} {us : Nat → Nat → Value} {l h : Nat} (hl : es.length ≤ cap) (hm : cap ≤ maxLen) (hk : ∀ e ∈ es, e.length = k)
  (hc : ∀ (i j : Nat) e c, es[i]? = some e → e[j]? = some c → ¬ C.owns b ∧ w.cell? ⟨b, o + (i * k + j), none⟩ = some (us i j))
  (hh : ∀ (i j : Nat) e c, es[i]? = some e → e[j]? = some c → Rep C w c (us i j)) (hlh : l ≤ h) (hle : h ≤ es.length) :
  Rep C w (.sl k ((es.take h).drop l)) (.slice (if cap = l then some ⟨b, o, none⟩ else some (Addr.add ⟨b, o, none⟩ (l * k))) (h - l) (cap - l)) := by
 have hlen : ((es.take h).drop l).length = h - l := by simp; omega
 by_cases h0 : h = l
 ·subst h0
  have : (es.take h).drop h = [] := List.eq_nil_of_length_eq_zero (by omega)
  rw [this, Nat.sub_self]
  exact .slE _ _ _ (by omega)
 ·rw [if_neg (by omega), Addr.add_lit, ← hlen]
  have hat : ∀ i e, ((es.take h).drop l)[i]? = some e → es[l + i]? = some e := fun i e he => by
   rw [List.getElem?_drop, List.getElem?_take] at he
   split at he
   ·exact he
   ·cases he
  refine .sl _ _ b (o + l * k) _ (fun i j => us (l + i) j) (by omega) (by omega) (fun e he => hk e (List.mem_of_mem_take (List.mem_of_mem_drop he))) (fun i j e c hi hj => ?_) (fun i j e c hi hj => hh _ _ _ _ (hat i e hi) hj)
  have := hc _ _ _ _ (hat i e hi) hj
  rwa [show o + l * k + (i * k + j) = o + ((l + i) * k + j) from by rw [Nat.add_mul]; omega]
theorem run_bounds {isS : Bool} {len cap : Nat} {lo hi : Option Int} {k1 k2 : IntKind} (hc : len ≤ cap) (h : 0 ≤ lo.getD 0 ∧ lo.getD 0 ≤ hi.getD len ∧ hi.getD len ≤ len) (w : World) :
  (Instr.sliceBounds isS len cap (lo.map (Value.int k1)) (hi.map (Value.int k2)) none).run P w = .ok ((lo.getD 0).toNat, (hi.getD len).toNat, cap) w := by
 unfold Instr.sliceBounds Instr.sliceBound
 cases lo with
 | none =>
  cases hi with
  | none => simp
  | some x =>
   simp only [Option.getD_some, Option.getD_none] at h
   have h1 : 0 ≤ x ∧ x ≤ (cap : Int) := ⟨by omega, by omega⟩
   simp [asIntOf, h1]
 | some y =>
  cases hi with
  | none =>
   simp only [Option.getD_some, Option.getD_none] at h
   have h1 : 0 ≤ y ∧ y ≤ (len : Int) := ⟨by omega, by omega⟩
   simp [asIntOf, h1]
  | some x =>
   simp only [Option.getD_some] at h
   have h1 : 0 ≤ x ∧ x ≤ (cap : Int) := ⟨by omega, by omega⟩
   have h2 : 0 ≤ y ∧ y ≤ x := ⟨by omega, by omega⟩
   have h3 : max x 0 = x := by omega
   simp [asIntOf, h1, h2, h3]
theorem cut_sl {k1 k2 : IntKind} {t e : TypeId} {sz by' : Nat} (ht : slOf P t = some (e, sz, by')) {lo hi : Option Int} {k' : Nat} {es : List (List D)} (hk' : k' = sz) {u : Value} (hr : Rep C w (.sl k' es) u)
  (hb : 0 ≤ lo.getD 0 ∧ lo.getD 0 ≤ hi.getD es.length ∧ hi.getD es.length ≤ es.length) :
  ∃ u', Rep C w (.sl k' ((upTo hi es).drop (lo.getD 0).toNat)) u' ∧
   ∀ w', (Instr.sliceAt t u (lo.map (Value.int k1)) (hi.map (Value.int k2)) none).run P w' = .ok u' w' := by
 obtain ⟨inf, h1, h2, h3, _⟩ := slOf_spec ht
 subst hk'
 have ee : upTo hi es = es.take (hi.getD es.length).toNat := by cases hi <;> simp [upTo]
 rw [ee]
 cases hr with
 | slE _ ao cap hm =>
  have e0 : (List.take (hi.getD ([] : List (List D)).length).toNat ([] : List (List D))).drop (lo.getD 0).toNat = [] := by simp
  rw [e0]
  simp only [List.length_nil] at hb
  refine ⟨.slice (if cap = 0 then ao else ao.map (·.add (0 * k'))) 0 cap, .slE _ _ _ hm, fun w' => ?_⟩
  have hl0 : lo.getD 0 = 0 := by omega
  have hh0 : hi.getD 0 = 0 := by
   have h1 := hb.2.1; have h2 := hb.2.2
   simp only [Int.ofNat_zero] at *
   omega
  simp [Instr.sliceAt, Instr.slice, run_underlying h1, run_bounds (isS := true) (len := 0) (cap := cap) (Nat.zero_le _) hb, run_sizeOf' h2, h3, hl0, hh0]
 | sl _ _ b o cap us hl hm hk hc hh =>
  refine ⟨_, Rep.cutSl (l := (lo.getD 0).toNat) (h := (hi.getD es.length).toNat) hl hm hk hc hh (by omega) (by omega), fun w' => ?_⟩
  simp [Instr.sliceAt, Instr.slice, run_underlying h1, run_bounds (isS := true) hl hb, run_sizeOf' h2, h3]
theorem clip_sl {t e : TypeId} {sz by' : Nat} (ht : slOf P t = some (e, sz, by')) {es : List (List D)} {u : Value} (hr : Rep C w (.sl sz es) u) :
  ∃ u', Rep C w (.slc sz es) u' ∧ ∀ w', (Instr.sliceAt t u none (some (.int .i64 es.length)) (some (.int .i64 es.length))).run P w' = .ok u' w' := by
 obtain ⟨inf, h1, h2, h3, _⟩ := slOf_spec ht
 obtain ⟨ao, cap, rfl, hle, hmx⟩ := len_sl hr
 have hle' : (es.length : Int) ≤ (cap : Int) := by omega
 refine ⟨.slice (if es.length = 0 then ao else ao.map (·.add (0 * sz))) es.length es.length, .slc _ _ _ ?_ ⟨_, rfl⟩, fun w' => ?_⟩
 ·cases hr with
  | slE _ _ _ _ => exact .slE _ _ _ (Nat.zero_le _)
  | sl _ _ b o _ us hl hm hk hc hh =>
   have : (if es.length = 0 then some (⟨b, o, none⟩ : Addr) else (some (⟨b, o, none⟩ : Addr)).map (·.add (0 * sz))) = some ⟨b, o, none⟩ := by
    split <;> simp [Addr.add_lit]
   rw [this]
   exact .sl _ _ b o _ us (Nat.le_refl _) (by omega) hk hc hh
 ·simp [Instr.sliceAt, Instr.slice, run_underlying h1, Instr.sliceBounds, Instr.sliceBound, asIntOf, run_sizeOf' h2, h3]
  intro hh
  omega
theorem cut_ok {k1 k2 : IntKind} (I : Inv w0 B C0 n S C a w) {t : TypeId} {d : D} {c : Bool} {lo hi : Option Int} {u : Value} {k : D → Prop} (h : cutK c S d lo hi k)
  (hs : ∀ s, d = .v (.string s) → P.underlying t = some .string) (hl : ∀ k' es, (d = .sl k' es ∨ ∃ s g, d = .own s g ∧ frozOf S s g = some (k', es)) → ∃ e b, slOf P t = some (e, k', b)) :
  ∃ d', k d' ∧ (c = true → Rep C w d u → ∃ u', Rep C w d' u' ∧ ∀ w', (Instr.sliceAt t u (lo.map (Value.int k1)) (hi.map (Value.int k2)) none).run P w' = .ok u' w') := by
 cases d with
 | v x =>
  cases x with
  | string s =>
   refine ⟨_, h.2, fun hc hr => ?_⟩
   obtain rfl := hr.v_inv
   have hb := h.1 hc
   refine ⟨_, .v _, fun w' => ?_⟩
   simp [Instr.sliceAt, Instr.slice, run_underlying (hs s rfl), run_bounds (isS := false) (Nat.le_refl s.size) hb]
  | _ => exact h.elim
 | sl k' es =>
  refine ⟨_, h.2, fun hc hr => ?_⟩
  obtain ⟨e, b, ht⟩ := hl k' es (.inl rfl)
  exact cut_sl ht rfl hr (h.1 hc)
 | own s g =>
  simp only [cutK] at h
  cases hf : frozOf S s g with
  | none => rw [hf] at h; exact h.elim
  | some x =>
   obtain ⟨k', es⟩ := x
   rw [hf] at h
   refine ⟨_, h.2, fun hc hr => ?_⟩
   obtain ⟨e, b, ht⟩ := hl k' es (.inr ⟨s, g, rfl, hf⟩)
   obtain ⟨u', hv, hrep⟩ := I.heap s g _ (frozOf_spec hf)
   cases hr with
   | own _ _ _ hv' _ =>
    rw [hv] at hv'
    simp only [Option.some.injEq] at hv'
    subst hv'
    exact cut_sl ht rfl hrep (h.1 hc)
 | _ => exact h.elim
end
variable {P : Program}
def evsK (c : Bool) (S : St) : List Operand → (List D → Prop) → Prop
 | [], k => k []
 | x :: xs, k => evK c S x fun d => evsK c S xs fun ds => k (d :: ds)
def optI (c : Bool) (S : St) (x : Option Operand) (k : Option Int → Prop) : Prop :=
 match x with
 | none => k none
 | some x => evK c S x fun d => match d with
  | .v (.int _ i) => k (some i)
  | _ => False
def loadK (P : Program) (S : St) (t : TypeId) (d : D) (k : D → Prop) : Prop :=
 match tyOf P t with
 | some (agg, sz) =>
  match cellsAt S d with
  | some cs => takeK agg sz cs k
  | none => False
 | none => False
def ptrLike : D → Bool
 | .rd _ | .ptr _ _ _ | .elt _ _ _ _ _ => true
 | .v (.pointer (some _)) => true
 | _ => false
def ptrOf (P : Program) (t : TypeId) : Bool :=
 match P.underlying t with
 | some (.pointer e) => match P.info? e with
  | some i => i.size != 0
  | none => false
 | _ => false
theorem ptrOf_spec {t : TypeId} (h : ptrOf P t = true) : ∃ e i, P.underlying t = some (.pointer e) ∧ P.info? e = some i ∧ i.size ≠ 0 := by
 unfold ptrOf at h
 split at h
 ·rename_i e he
  split at h
  ·rename_i i hi; exact ⟨e, i, he, hi, by simpa using h⟩
  ·cases h
 ·cases h
theorem decide_addr (b o o' : Nat) : ((⟨b, o, none⟩ : Addr) == ⟨b, o', none⟩) = decide (o = o') := by
 by_cases h : o = o'
 ·subst h; simp
 ·simp [h]
def bothK (dx dy : D) (b : Bool) (k : D → Prop) : Prop :=
 match dx, dy with
 | .v (.bool p), .v (.bool q) => k (.v (.bool (bif b then p else q)))
 | .v (.bool p), _ => b = true ∧ k (.v (.bool p))
 | _, .v (.bool q) => b = false ∧ k (.v (.bool q))
 | _, _ => False
theorem eqIn_nil {t e : TypeId} (ht : P.underlying t = some (.slice e)) (d : Nat) (ao : Option Addr) (n cap : Nat) (w : World) : (Op.equalIn (d + 1) t (.slice ao n cap) (.slice none 0 0)).run P w = .ok ao.isNone w := by
 cases ao <;> simp [Op.equalIn, run_underlying ht]
theorem eqGuard_slice {op : BinOp} {t : TypeId} {x y : Operand} {ao : Option Addr} {n cap : Nat} : eqGuard op t x y (.slice ao n cap) (.slice none 0 0) = pure () := by
 unfold eqGuard
 split <;> rfl
theorem bin_nil {t e : TypeId} {x y : Operand} (ht : P.underlying t = some (.slice e)) (ao : Option Addr) (n cap : Nat) (w : World) :
  (do eqGuard .eql t x y (.slice ao n cap) (.slice none 0 0); binOp .eql t (.slice ao n cap) (.slice none 0 0) : Sem Value).run P w = .ok (.bool ao.isNone) w ∧
  (do eqGuard .neq t x y (.slice ao n cap) (.slice none 0 0); binOp .neq t (.slice ao n cap) (.slice none 0 0) : Sem Value).run P w = .ok (.bool !ao.isNone) w := by
 constructor
 ·rw [eqGuard_slice]
  simp only [binOp, Op.equal, Op.maxDepth]
  simp [eqIn_nil ht 9999]
 ·rw [eqGuard_slice]
  simp only [binOp, Op.equal, Op.maxDepth]
  simp [eqIn_nil ht 9999]
def nilCmpK (P : Program) (t : TypeId) (op : BinOp) (es : List (List D)) (dy : D) (k : D → Prop) : Prop :=
 match dy with
 | .v (.slice none 0 0) => (match P.underlying t with | some (.slice _) => True | _ => False) ∧ match op with
  | .eql => ∀ b : Bool, (es ≠ [] → b = false) → k (.v (.bool b))
  | .neq => ∀ b : Bool, (es ≠ [] → b = false) → k (.v (.bool !b))
  | _ => False
 | _ => False
/-! structs compared cell by cell -/
def eqDescL (P : Program) : List Field → Option (List (Nat × Nat))
 | [] => some []
 | f :: fs =>
  if f.name ≠ "_" then
   match P.underlying f.type with
   | some (.int _) => (eqDescL P fs).map ((f.offset, 0) :: ·)
   | some .bool => (eqDescL P fs).map ((f.offset, 1) :: ·)
   | some .string => (eqDescL P fs).map ((f.offset, 2) :: ·)
   | _ => none
  else none
def eqDesc (P : Program) (t : TypeId) : Option (List (Nat × Nat)) :=
 match P.underlying t with
 | some (.struct fs) => if P.stoodInHeld t = false ∧ P.eqGuardType P.depth t = false then eqDescL P fs.toList else none
 | _ => none
def eqCells : List (Nat × Nat) → List D → List D → Option Bool
 | [], _, _ => some true
 | (o, kd) :: r, as, bs =>
  match kd, as[o]?, bs[o]? with
  | 0, some (.v (.int k a)), some (.v (.int k' b)) => if k = k' then (eqCells r as bs).map (decide (a = b) && ·) else none
  | 1, some (.v (.bool a)), some (.v (.bool b)) => (eqCells r as bs).map ((a == b) && ·)
  | 2, some (.v (.string a)), some (.v (.string b)) => (eqCells r as bs).map ((a.data.toList == b.data.toList) && ·)
  | _, _, _ => none
def aggCmpK (P : Program) (t : TypeId) (op : BinOp) (as : List D) (dy : D) (k : D → Prop) : Prop :=
 match dy with
 | .agg bs => match eqDesc P t with
  | some l => match eqCells l as bs with
   | some b => match op with
    | .eql => k (.v (.bool b))
    | .neq => k (.v (.bool !b))
    | _ => False
   | none => False
  | none => False
 | _ => False
theorem eqCells_int {o : Nat} {r : List (Nat × Nat)} {as bs : List D} {b : Bool} (h : eqCells ((o, 0) :: r) as bs = some b) :
  ∃ k a c b', as[o]? = some (.v (.int k a)) ∧ bs[o]? = some (.v (.int k c)) ∧ eqCells r as bs = some b' ∧ b = ((a == c) && b') := by
 unfold eqCells at h
 split at h
 ·rename_i k a k' c _ g1 g2
  split at h
  ·rename_i hk
   subst hk
   obtain ⟨b', h4, h5⟩ := Option.map_eq_some_iff.1 h
   exact ⟨k, a, c, b', g1, g2, h4, by rw [← h5]; rfl⟩
  ·cases h
 ·rename_i h0 _ _; simp at h0
 ·rename_i h0 _ _; simp at h0
 ·cases h
theorem eqCells_bool {o : Nat} {r : List (Nat × Nat)} {as bs : List D} {b : Bool} (h : eqCells ((o, 1) :: r) as bs = some b) :
  ∃ a c b', as[o]? = some (.v (.bool a)) ∧ bs[o]? = some (.v (.bool c)) ∧ eqCells r as bs = some b' ∧ b = ((a == c) && b') := by
 unfold eqCells at h
 split at h
 ·rename_i h0 _ _; simp at h0
 ·rename_i a c _ g1 g2
  obtain ⟨b', h4, h5⟩ := Option.map_eq_some_iff.1 h
  exact ⟨a, c, b', g1, g2, h4, by rw [← h5]⟩
 ·rename_i h0 _ _; simp at h0
 ·cases h
theorem eqCells_str {o : Nat} {r : List (Nat × Nat)} {as bs : List D} {b : Bool} (h : eqCells ((o, 2) :: r) as bs = some b) :
  ∃ a c b', as[o]? = some (.v (.string a)) ∧ bs[o]? = some (.v (.string c)) ∧ eqCells r as bs = some b' ∧ b = ((a.data.toList == c.data.toList) && b') := by
 unfold eqCells at h
 split at h
 ·rename_i h0 _ _; simp at h0
 ·rename_i h0 _ _; simp at h0
 ·rename_i a c _ g1 g2
  obtain ⟨b', h4, h5⟩ := Option.map_eq_some_iff.1 h
  exact ⟨a, c, b', g1, g2, h4, by rw [← h5]⟩
 ·cases h
theorem eqFields_ok {w : World} {as bs : List D} {xs ys : Array Value} (d : Nat) (hx : ∀ (j : Nat) v, as[j]? = some (.v v) → xs[j]? = some v) (hy : ∀ (j : Nat) v, bs[j]? = some (.v v) → ys[j]? = some v) :
  ∀ (fs : List Field) (l : List (Nat × Nat)) (b : Bool), eqDescL P fs = some l → eqCells l as bs = some b → (Op.eqFields (d + 1) xs ys fs).run P w = .ok b w
 | [], l, b, h1, h2 => by
  simp [eqDescL] at h1
  subst h1
  simp [eqCells] at h2
  subst h2
  simp [Op.eqFields]
 | f :: fs, l, b, h1, h2 => by
  unfold eqDescL at h1
  split at h1
  ·rename_i hn
   have step : ∀ (a c : Value) (e : Bool), (part f.type xs f.offset).run P w = .ok a w → (part f.type ys f.offset).run P w = .ok c w → (Op.equalIn (d + 1) f.type a c).run P w = .ok e w →
     ∀ r b', eqDescL P fs = some r → eqCells r as bs = some b' → b = (e && b') → (Op.eqFields (d + 1) xs ys (f :: fs)).run P w = .ok b w := by
    intro a c e p1 p2 p3 r b' h3 h4 hb
    have ih := eqFields_ok (w := w) d hx hy fs r b' h3 h4
    simp only [Op.eqFields, hn, ne_eq, not_false_eq_true, if_true, Sem.run_bind, p1, p2, p3, Result.andThen_ok]
    cases e with
    | false => simp [hb]
    | true => simp [hb, ih]
   split at h1
   ·rename_i kd hu
    obtain ⟨r, h3, rfl⟩ := Option.map_eq_some_iff.1 h1
    obtain ⟨k, a, c, b', g1, g2, h4, h5⟩ := eqCells_int h2
    refine step (.int k a) (.int k c) (a == c) ?_ ?_ (run_equalIn_int w d _ _ _ _ _ hu) r b' h3 h4 h5
    ·simp [part, isAgg, run_underlying hu, hx _ _ g1]
    ·simp [part, isAgg, run_underlying hu, hy _ _ g2]
   ·rename_i hu
    obtain ⟨r, h3, rfl⟩ := Option.map_eq_some_iff.1 h1
    obtain ⟨a, c, b', g1, g2, h4, h5⟩ := eqCells_bool h2
    refine step (.bool a) (.bool c) (a == c) ?_ ?_ (run_equalIn_bool' w d _ _ _ hu) r b' h3 h4 h5
    ·simp [part, isAgg, run_underlying hu, hx _ _ g1]
    ·simp [part, isAgg, run_underlying hu, hy _ _ g2]
   ·rename_i hu
    obtain ⟨r, h3, rfl⟩ := Option.map_eq_some_iff.1 h1
    obtain ⟨a, c, b', g1, g2, h4, h5⟩ := eqCells_str h2
    refine step (.string a) (.string c) (a.data.toList == c.data.toList) ?_ ?_ ?_ r b' h3 h4 h5
    ·simp [part, isAgg, run_underlying hu, hx _ _ g1]
    ·simp [part, isAgg, run_underlying hu, hy _ _ g2]
    ·rw [run_equalIn_string w d _ _ _ hu, ByteArray.toList_eq, ByteArray.toList_eq]
   ·cases h1
  ·cases h1
theorem aggCmp_run {t : TypeId} {as bs : List D} {xs ys : Array Value} {l : List (Nat × Nat)} {b : Bool} (ht : eqDesc P t = some l) (hb : eqCells l as bs = some b) (x y : Operand) (op : BinOp)
  (hx : ∀ (j : Nat) v, as[j]? = some (.v v) → xs[j]? = some v) (hy : ∀ (j : Nat) v, bs[j]? = some (.v v) → ys[j]? = some v) (w : World) :
  (op = .eql → (do eqGuard op t x y (.agg xs) (.agg ys); binOp op t (.agg xs) (.agg ys) : Sem Value).run P w = .ok (.bool b) w) ∧
  (op = .neq → (do eqGuard op t x y (.agg xs) (.agg ys); binOp op t (.agg xs) (.agg ys) : Sem Value).run P w = .ok (.bool !b) w) := by
 unfold eqDesc at ht
 split at ht
 ·rename_i fs hu
  split at ht
  ·rename_i hc
   have hfo : P.fieldsOf t = fs := by simp [Program.fieldsOf, hu]
   have h1 := eqFields_ok (w := w) 9998 hx hy fs.toList l b ht hb
   have h2 := run_equalIn_struct w 9999 t xs ys (by rw [hfo]; exact hu) hc.1
   rw [hfo, h1] at h2
   refine ⟨?_, ?_⟩ <;> rintro rfl
   ·simp only [Sem.run_bind, run_eqGuard_agg w _ t x y xs ys hc.2, Result.andThen_ok, run_eql_struct, h2]
   ·simp only [Sem.run_bind, run_eqGuard_agg w _ t x y xs ys hc.2, Result.andThen_ok, run_neq_struct, h2]
  ·cases ht
 ·cases ht
/-! maps -/
def mapOf (P : Program) (t : TypeId) : Option (Nat × TypeId) :=
 match P.underlying t with
 | some (.map k e) => match P.underlying k with
  | some (.int _) => some (0, e)
  | some .string => some (1, e)
  | _ => none
 | _ => none
def zeroV (P : Program) (t : TypeId) : Option Value := (P.info? t).bind (·.zero)
def keyEq : Nat → Value → Value → Option Bool
 | 0, .int k a, .int k' b => if k = k' then some (decide (a = b)) else none
 | 1, .string a, .string b => some (a.data.toList == b.data.toList)
 | _, _, _ => none
def mfind (tag : Nat) (k : Value) : List (Value × D) → Option (Option D)
 | [] => some none
 | (k', d) :: r => match keyEq tag k k' with
  | some true => some (some d)
  | some false => mfind tag k r
  | none => none
def mapAt (S : St) (d : D) : Option (List (Value × D)) :=
 match d with
 | .v (.map none) => some []
 | .own s g => match look S.heap s with
  | some (g', .map es) => if g' = g then some es else none
  | _ => none
 | _ => none
def lookupK (P : Program) (S : St) (t : TypeId) (dm dk : D) (commaOk : Bool) (k : D → Prop) : Prop :=
 match mapOf P t, dk, mapAt S dm with
 | some (tag, e), .v key, some es =>
  match zeroV P e, mfind tag key es with
  | some z, some r => match r with
   | some d => k (if commaOk then .tup [d, .v (.bool true)] else d)
   | none => k (if commaOk then .tup [.v z, .v (.bool false)] else .v z)
  | _, _ => False
 | _, _, _ => False
theorem mapOf_spec {t : TypeId} {tag : Nat} {e : TypeId} (h : mapOf P t = some (tag, e)) : ∃ k, P.underlying t = some (.map k e) ∧ ((tag = 0 ∧ ∃ q, P.underlying k = some (.int q)) ∨ (tag = 1 ∧ P.underlying k = some .string)) := by
 unfold mapOf at h
 split at h
 ·rename_i k e' hu
  split at h
  ·rename_i q hk
   simp only [Option.some.injEq, Prod.mk.injEq] at h
   obtain ⟨rfl, rfl⟩ := h
   exact ⟨k, hu, .inl ⟨rfl, q, hk⟩⟩
  ·rename_i hk
   simp only [Option.some.injEq, Prod.mk.injEq] at h
   obtain ⟨rfl, rfl⟩ := h
   exact ⟨k, hu, .inr ⟨rfl, hk⟩⟩
  ·cases h
 ·cases h
theorem keyEq_same {tag : Nat} {kt : TypeDesc} (hk : (tag = 0 ∧ ∃ q, kt = .int q) ∨ (tag = 1 ∧ kt = .string)) {a b : Value} {r : Bool} (h : keyEq tag a b = some r) : Instr.sameNow kt a b = some r := by
 unfold keyEq at h
 split at h
 ·rcases hk with ⟨_, q, rfl⟩ | ⟨h0, _⟩
  ·simp only [Instr.sameNow]
   split at h
   ·rename_i he; rw [if_pos he]; simp only [Option.some.injEq] at h ⊢; rw [← h]; rfl
   ·cases h
  ·cases h0
 ·rcases hk with ⟨h0, _⟩ | ⟨_, rfl⟩
  ·cases h0
  ·simp only [Instr.sameNow]
   simp only [Option.some.injEq] at h ⊢
   rw [← h, beq_toListBytes, ByteArray.toList_eq, ByteArray.toList_eq]
 ·cases h
theorem mfind_ok {tag : Nat} {kt : TypeDesc} (hk : (tag = 0 ∧ ∃ q, kt = .int q) ∨ (tag = 1 ∧ kt = .string)) {key : Value} : ∀ {es : List (Value × D)} {arr : List MapEntry} (i : Nat) {r : Option D}, arr.length = es.length →
  (∀ (j : Nat) (e : Value × D) (x : MapEntry), es[j]? = some e → arr[j]? = some x → x.key = e.1) → mfind tag key es = some r →
  (r = none → Instr.findNow kt key arr i = some none) ∧ (∀ d, r = some d → ∃ (j : Nat) (e : Value × D) (x : MapEntry), es[j]? = some e ∧ arr[j]? = some x ∧ e.2 = d ∧ Instr.findNow kt key arr i = some (some (i + j, x.val)) ∧ keyEq tag key x.key = some true ∧ ∀ (m : Nat) (e' : Value × D), m < j → es[m]? = some e' → keyEq tag key e'.1 = some false)
 | [], [], i, r, _, _, h => by
  simp only [mfind, Option.some.injEq] at h
  subst h
  exact ⟨fun _ => rfl, fun d h => by cases h⟩
 | [], _ :: _, i, r, h, _, _ => by simp at h
 | _ :: _, [], i, r, h, _, _ => by simp at h
 | (k', d') :: es, x :: arr, i, r, hl, hkeys, h => by
  have h0 : x.key = k' := hkeys 0 _ _ rfl rfl
  simp only [mfind] at h
  split at h
  ·rename_i he
   simp only [Option.some.injEq] at h
   subst h
   refine ⟨fun h => (by cases h), fun d hd => ?_⟩
   simp only [Option.some.injEq] at hd
   subst hd
   refine ⟨0, _, x, rfl, rfl, rfl, ?_, by rw [h0]; exact he, fun m e' hm => by omega⟩
   simp only [Instr.findNow, h0, keyEq_same hk he, Nat.add_zero]
  ·rename_i he
   have ih := mfind_ok hk (i + 1) (es := es) (arr := arr) (r := r) (by simpa using hl) (fun j e x' h1 h2 => hkeys (j + 1) e x' (by simpa using h1) (by simpa using h2)) h
   refine ⟨fun hr => ?_, fun d hd => ?_⟩
   ·simp only [Instr.findNow, h0, keyEq_same hk he]; exact ih.1 hr
   ·obtain ⟨j, e, y, q1, q2, q3, q4, q5, q6⟩ := ih.2 d hd
    refine ⟨j + 1, e, y, by simpa using q1, by simpa using q2, q3, ?_, q5, fun m e' hm he' => ?_⟩
    ·simp only [Instr.findNow, h0, keyEq_same hk he, q4, show i + 1 + j = i + (j + 1) by omega]
    ·cases m with
     | zero => simp at he'; subst he'; exact he
     | succ m => exact q6 m e' (by omega) (by simpa using he')
  ·cases h
theorem checkKey_ok {kt : TypeId} {tag : Nat} {kd : TypeDesc} (hu : P.underlying kt = some kd) (hk : (tag = 0 ∧ ∃ q, kd = .int q) ∨ (tag = 1 ∧ kd = .string)) (b : Bool) (m : Nat) (v : Value) (w : World) : (Instr.checkKey b (m + 1) kt v).run P w = .ok () w := by
 rcases hk with ⟨_, q, rfl⟩ | ⟨_, rfl⟩ <;> simp [Instr.checkKey, run_underlying hu]
def isIface (P : Program) (t : TypeId) : Bool := match P.underlying t with
 | some (.interface _) => true
 | _ => false
def ifK (op : BinOp) (b : Bool) (dy : D) (k : D → Prop) : Prop :=
 match dy with
 | .v .nilIface => match op with
  | .eql => k (.v (.bool b))
  | .neq => k (.v (.bool !b))
  | _ => False
 | _ => False
theorem isIface_spec {t : TypeId} (h : isIface P t = true) : ∃ ms, P.underlying t = some (.interface ms) := by
 unfold isIface at h
 split at h
 ·exact ⟨_, ‹_›⟩
 ·cases h
theorem if_run {t : TypeId} (ht : isIface P t = true) (op : BinOp) (x : Operand) (ux : Value) (b : Bool) (hu : (ux = .nilIface ∧ b = true) ∨ (∃ tt v, ux = .iface tt v) ∧ b = false) (w : World) :
  (op = .eql → (do eqGuard op t x (.const .nilIface) ux .nilIface; binOp op t ux .nilIface : Sem Value).run P w = .ok (.bool b) w) ∧
  (op = .neq → (do eqGuard op t x (.const .nilIface) ux .nilIface; binOp op t ux .nilIface : Sem Value).run P w = .ok (.bool !b) w) := by
 obtain ⟨ms, hms⟩ := isIface_spec ht
 have e0 : ∀ d, (Op.equalIn (d + 1) t ux .nilIface).run P w = .ok b w := fun d => by
  rcases hu with ⟨rfl, rfl⟩ | ⟨⟨tt, v, rfl⟩, rfl⟩ <;> simp [Op.equalIn, run_underlying hms]
 have e := e0 9999
 have g : ∀ op, (eqGuard op t x (.const .nilIface) ux .nilIface) = pure () := fun op => by
  unfold eqGuard
  rcases hu with ⟨rfl, rfl⟩ | ⟨⟨tt, v, rfl⟩, rfl⟩ <;> cases op <;> simp
 constructor
 ·rintro rfl
  rw [g]
  rcases hu with ⟨rfl, rfl⟩ | ⟨⟨tt, v, rfl⟩, rfl⟩ <;> simp [binOp, Op.equal, Op.maxDepth, e]
 ·rintro rfl
  rw [g]
  rcases hu with ⟨rfl, rfl⟩ | ⟨⟨tt, v, rfl⟩, rfl⟩ <;> simp [binOp, Op.equal, Op.maxDepth, e]
def ptrCmpK (P : Program) (t : TypeId) (op : BinOp) (s g o : Nat) (dy : D) (k : D → Prop) : Prop :=
 match dy with
 | .ptr s' g' o' => s' = s ∧ g' = g ∧ ptrOf P t = true ∧ match op with
  | .eql => k (.v (.bool (decide (o = o'))))
  | .neq => k (.v (.bool (!decide (o = o'))))
  | _ => False
 | _ => False
theorem ptr_run {t : TypeId} (ht : ptrOf P t = true) (op : BinOp) (x y : Operand) (b o o' : Nat) (w : World) :
  (op = .eql → (do eqGuard op t x y (.pointer (some ⟨b, o, none⟩)) (.pointer (some ⟨b, o', none⟩)); binOp op t (.pointer (some ⟨b, o, none⟩)) (.pointer (some ⟨b, o', none⟩)) : Sem Value).run P w = .ok (.bool (decide (o = o'))) w) ∧
  (op = .neq → (do eqGuard op t x y (.pointer (some ⟨b, o, none⟩)) (.pointer (some ⟨b, o', none⟩)); binOp op t (.pointer (some ⟨b, o, none⟩)) (.pointer (some ⟨b, o', none⟩)) : Sem Value).run P w = .ok (.bool (!decide (o = o'))) w) := by
 obtain ⟨e, i, h1, h2, h3⟩ := ptrOf_spec ht
 have he : ∀ d, (Op.equalIn (d + 1) t (.pointer (some ⟨b, o, none⟩)) (.pointer (some ⟨b, o', none⟩))).run P w = .ok (decide (o = o')) w := fun d => by
  simp [Op.equalIn, run_underlying h1, run_sizeOf' h2, h3, sameAddr, decide_addr]
 have gd : ∀ op, eqGuard op t x y (.pointer (some ⟨b, o, none⟩)) (.pointer (some ⟨b, o', none⟩)) = pure () := fun op => by unfold eqGuard; split <;> rfl
 constructor
 ·rintro rfl
  rw [gd]
  simp only [binOp, Op.equal, Op.maxDepth]
  simp [he 9999]
 ·rintro rfl
  rw [gd]
  simp only [binOp, Op.equal, Op.maxDepth]
  simp [he 9999]
def arrCutK (P : Program) (c : Bool) (t : TypeId) (cs : List D) (lo hi : Option Int) (k : D → Prop) : Prop :=
 (match arrOf P t with | some (m, s) => s = 1 ∧ m = cs.length ∧ m ≤ 16777216 | none => False) ∧ (c = true → 0 ≤ lo.getD 0 ∧ lo.getD 0 ≤ hi.getD cs.length ∧ hi.getD cs.length ≤ cs.length) ∧
  k (.sl 1 ((upTo hi (cs.map fun d => [d])).drop (lo.getD 0).toNat))
theorem arrCut_ok {k1 k2 : IntKind} {C : Ctx} {w : World} {t : TypeId} {c : Bool} {cs : List D} {lo hi : Option Int} {u : Value} {k : D → Prop} (h : arrCutK P c t cs lo hi k) :
  ∃ d', k d' ∧ (c = true → Rep C w (.rd cs) u → ∃ u', Rep C w d' u' ∧ ∀ w', (Instr.sliceAt t u (lo.map (Value.int k1)) (hi.map (Value.int k2)) none).run P w' = .ok u' w') := by
 obtain ⟨hm, hb, hk⟩ := h
 refine ⟨_, hk, fun hc hr => ?_⟩
 have hb := hb hc
 split at hm
 ·rename_i m s ha
  obtain ⟨rfl, rfl, hm⟩ := hm
  obtain ⟨e, ie, h1, h2, h3⟩ := arrOf_spec ha
  cases hr with
  | rd _ b o us hcell hh =>
   have ee : upTo hi (cs.map fun d => [d]) = (cs.map fun d => [d]).take (hi.getD cs.length).toNat := by
    cases hi with
    | none => simp only [upTo, Option.getD_none, Int.toNat_natCast]; rw [List.take_of_length_le (by simp)]
    | some h => simp [upTo]
   rw [ee]
   have one : ∀ (i j : Nat) e c, (cs.map fun d => [d])[i]? = some e → e[j]? = some c → j = 0 ∧ cs[i]? = some c := fun i j e c h1 h2 => by
    rw [List.getElem?_map] at h1
    cases hci : cs[i]? with
    | none => rw [hci] at h1; simp at h1
    | some d =>
     rw [hci] at h1
     simp only [Option.map_some, Option.some.injEq] at h1
     subst h1
     cases j with
     | zero => simp at h2; exact ⟨rfl, by rw [h2]⟩
     | succ j => simp at h2
   refine ⟨_, Rep.cutSl (cap := cs.length) (b := b) (o := o) (us := fun i _ => us i) (l := (lo.getD 0).toNat) (h := (hi.getD cs.length).toNat) (by simp) (by unfold maxLen; omega) (fun e he => ?_) (fun i j e c q1 q2 => ?_) (fun i j e c q1 q2 => ?_) (by omega) (by simp; omega), fun w' => ?_⟩
   ·obtain ⟨d, _, rfl⟩ := List.mem_map.1 he; rfl
   ·obtain ⟨rfl, q⟩ := one i j e c q1 q2
    simpa using hcell i c q
   ·obtain ⟨rfl, q⟩ := one i j e c q1 q2
    exact hh i c q
   ·simp [Instr.sliceAt, run_underlying h1, run_bounds (isS := false) (Nat.le_refl cs.length) hb, run_sizeOf' h2, h3, Instr.sureAddr]
    split <;> rfl
 ·exact hm.elim
def qK (P : Program) (c : Bool) (S : St) (op : Op) (k : D → Prop) : Prop :=
 match op with
 | .move x | .assign x => evK c S x k
 | .pick x y z => evK c S x fun dx => match dx with
  | .v (.bool b) => evK (c && b) S y fun dy => evK (c && !b) S z fun dz => bothK dy dz b k
  | _ => False
 | .binOp op t x y _ => evK c S x fun dx => evK c S y fun dy => match dx with
  | .v (.bool _) => P.underlying t = some .bool ∧ binK c op dx dy k
  | .v .nilIface => isIface P t = true ∧ y = .const .nilIface ∧ ifK op true dy k
  | .v (.iface _ _) => isIface P t = true ∧ y = .const .nilIface ∧ ifK op false dy k
  | .agg as => aggCmpK P t op as dy k
  | .sl _ es => nilCmpK P t op es dy k
  | .own s g => match rowOf S s g with
   | some (_, _, es) => nilCmpK P t op es dy k
   | none => False
  | .ptr s g o => ptrCmpK P t op s g o dy k
  | _ => binK c op dx dy k
 | .unOp op _ x => evK c S x fun dx => match op, dx with
  | .not, .v (.bool b) => k (.v (.bool !b))
  | .neg, .v (.int kd i) => if kd = .i64 then (c = true → InR (-i)) ∧ k (.v (.int .i64 (-i))) else k (.v (.int kd (kd.wrap (-i))))
  | _, _ => False
 | .convert src dst x => evK c S x fun dx => match dx, P.underlying src, P.underlying dst with
  | .v (.int _ i), some _, some (.int .i64) => (c = true → InR i) ∧ k (.v (.int .i64 i))
  | .v (.int _ i), some _, some (.int kd) => k (.v (.int kd (kd.wrap i)))
  | .v (.string s), some _, some .string => k (.v (.string s))
  | .v (.int _ i), some _, some .string => (c = true → 0 ≤ i ∧ i < 128) ∧ k (.v (.string ⟨#[i.toNat.toUInt8]⟩))
  | _, _, _ => False
 | .fieldAddr t x i => evK c S x fun dx => match fldOf P t i with
  | some (o, _, s) => s ≠ 0 ∧ fieldAddrK o dx k
  | none => False
 | .field t x i => evK c S x fun dx => match fldOf P t i, dx with
  | some (o, agg, s), .agg cs => takeK agg s (cs.drop o) k
  | _, _ => False
 | .indexAddr t x y => evK c S x fun dx => evK c S y fun dy => match slOf P t, dy with
  | some (_, sz, _), .v (.int _ i) => idxK c S sz dx i k
  | none, .v (.int _ i) => match arrOf P t with
   | some (m, sz) => (c = true → 0 ≤ i ∧ i.toNat < m) ∧ fieldAddrK (i.toNat * sz) dx k
   | none => False
  | _, _ => False
 | .index t x y => evK c S x fun dx => evK c S y fun dy => match P.underlying t, dx, dy with
  | some .string, .v (.string s), .v (.int _ i) => match s.data.toList[i.toNat]? with
   | some b => (c = true → 0 ≤ i) ∧ k (.v (.int .u8 b.toNat))
   | none => False
  | _, _, _ => False
 | .load t x => evK c S x fun dx => loadK P S t dx k
 | .nilCheck x => evK c S x fun dx => ptrLike dx = true ∧ k dx
 | .lookup t x y ok => evK c S x fun dx => evK c S y fun dy => lookupK P S t dx dy ok k
 | .slice t x none (some y) (some z) => evK c S x fun dx => evK c S y fun dy => evK c S z fun dz => match dx with
  | .sl k' es => (match slOf P t with | some (_, s, _) => s = k' | none => False) ∧ dy = .v (.int .i64 es.length) ∧ dz = .v (.int .i64 es.length) ∧ k (.slc k' es)
  | _ => False
 | .slice t x lo hi none => evK c S x fun dx => optI c S lo fun l => optI c S hi fun h => match dx with
  | .v (.string _) => P.underlying t = some .string ∧ cutK c S dx l h k
  | .sl k' _ => (match slOf P t with | some (_, s, _) => s = k' | none => False) ∧ cutK c S dx l h k
  | .own s g => match rowOf S s g with
   | some (e, k1, es) => (match slOf P t with | some (_, s', _) => s' = 1 | none => False) ∧ k1 = 1 ∧ h = none ∧ match l with
    | some i => 0 ≤ i ∧ i.toNat < es.length ∧ k (.sub s g i.toNat)
    | none => False
   | none => (match slOf P t, frozOf S s g with | some (_, s, _), some (k', _) => s = k' | _, _ => False) ∧ cutK c S dx l h k
  | .rd cs => arrCutK P c t cs l h k
  | _ => False
 | .extract x i => evK c S x fun dx => match dx with
  | .tup ds => match ds[i]? with
   | some d => k d
   | none => False
  | _ => False
 | .build t parts => evsK c S (parts.toList.map (·.2)) fun ds => match bldOf P t with
  | some (place, zs) => match fillD place (zs.map .v) ((parts.toList.map (·.1)).zip ds) with
   | some cs => k (.agg cs)
   | none => False
  | none => False
 | .makeFunc fn first captured => first = #[] ∧ match fn with
  | .func f => match captured.toList with
   | [] => k (.v (.func (.func f) #[] #[]))
   | xs => evsK c S xs fun ds => k (.fn f ds)
  | _ => False
 | .call { callee := .builtin .len, args, argTypes } => match args.toList, argTypes.toList with
  | [x], [t] => evK c S x fun dx => (match dx with
   | .v (.string _) => P.underlying t = some .string
   | _ => match slOf P t with | some _ => True | none => False) ∧ lenK S dx k
  | _, _ => False
 | .call { callee := .builtin .min, args, .. } => match args.toList with
  | [x, y] => evK c S x fun dx => evK c S y fun dy => match dx, dy with
   | .v (.int .i64 i), .v (.int .i64 j) => k (.v (.int .i64 (if j < i then j else i)))
   | _, _ => False
  | _ => False
 | .call { callee := .builtin .max, args, .. } => match args.toList with
  | [x, y] => evK c S x fun dx => evK c S y fun dy => match dx, dy with
   | .v (.int .i64 i), .v (.int .i64 j) => k (.v (.int .i64 (if i < j then j else i)))
   | _, _ => False
  | _ => False
 | _ => False
section
variable {w0 : World} {B : Nat → Nat → Prop} {C0 : Ctx} {n : Nat} {S : St} {C : Ctx} {a : Act} {w : World}
theorem evsK_ok (I : Inv w0 B C0 n S C a w) {c : Bool} : ∀ {xs : List Operand} {k : List D → Prop}, evsK c S xs k →
  ∃ ds, k ds ∧ ds.length = xs.length ∧ (c = true → ∀ (j : Nat) x d, xs[j]? = some x → ds[j]? = some d → Rep C w d (a.eval x)) := by
 intro xs
 induction xs with
 | nil => intro k h; exact ⟨[], h, rfl, fun _ j x d hx _ => by simp at hx⟩
 | cons x xs ih =>
  intro k h
  obtain ⟨d, hd, hr⟩ := evK_ok I h
  obtain ⟨ds, hds, hlen, hrs⟩ := ih hd
  refine ⟨d :: ds, hds, by simp [hlen], fun hc j x' d' hx hd' => ?_⟩
  cases j with
  | zero => simp at hx hd'; subst hx; subst hd'; exact hr hc
  | succ j => exact hrs hc j x' d' (by simpa using hx) (by simpa using hd')
theorem optI_ok (I : Inv w0 B C0 n S C a w) {c : Bool} {x : Option Operand} {k : Option Int → Prop} (h : optI c S x k) :
  ∃ i kd, k i ∧ (c = true → x.map a.eval = i.map (Value.int kd)) := by
 cases x with
 | none => exact ⟨none, .i64, h, fun _ => rfl⟩
 | some x =>
  simp only [optI] at h
  obtain ⟨d, hd, hr⟩ := evK_ok I h
  split at hd
  ·rename_i kd i
   refine ⟨some i, kd, hd, fun hc => ?_⟩
   have := (hr hc).v_inv
   simp [this]
  ·exact hd.elim
theorem loadK_ok (I : Inv w0 B C0 n S C a w) {t : TypeId} {d : D} {u : Value} {k : D → Prop} (h : loadK P S t d k) :
  ∃ d', k d' ∧ (Rep C w d u → ∃ u', Rep C w d' u' ∧ ∀ w', Same w w' → (Instr.loadAt t u).run P w' = .ok u' w') := by
 unfold loadK at h
 split at h
 ·rename_i agg sz ht
  split at h
  ·rename_i cs hcs
   exact load_ok I ht hcs h
  ·exact h.elim
 ·exact h.elim
theorem field_ok {t : TypeId} {i o s : Nat} {agg : Bool} (hf : fldOf P t i = some (o, agg, s)) {cs : List D} {u : Value} {k : D → Prop} (h : takeK agg s (cs.drop o) k) :
  ∃ d', k d' ∧ (Rep C w (.agg cs) u → ∃ u', Rep C w d' u' ∧ ∀ w', (Instr.field t u i).run P w' = .ok u' w') := by
 obtain ⟨fs, f, h1, h2, rfl, h4⟩ := fldOf_spec hf
 unfold takeK at h
 cases agg with
 | true =>
  simp only [if_true] at h
  refine ⟨_, h.2, fun hr => ?_⟩
  cases hr with
  | agg _ us hn hh =>
   have hlen := h.1
   simp only [List.length_drop] at hlen
   refine ⟨.agg (us.extract f.offset (f.offset + s)), .agg _ _ (by simp; omega) (fun j c u hj hu => ?_), fun w' => ?_⟩
   ·rw [List.getElem?_take] at hj
    split at hj
    ·rename_i hjs
     rw [List.getElem?_drop] at hj
     rw [Array.getElem?_extract] at hu
     split at hu
     ·exact hh _ _ _ hj hu
     ·cases hu
    ·cases hj
   ·simp [Instr.field, run_underlying h1, h2, part, asAgg, run_isAgg h4, run_sizeOf h4]
 | false =>
  simp only [Bool.false_eq_true, if_false] at h
  split at h
  ·rename_i d rest hd
   refine ⟨_, h.2.2, fun hr => ?_⟩
   cases hr with
   | agg _ us hn hh =>
    have hj : cs[f.offset]? = some d := by
     have : (cs.drop f.offset)[0]? = some d := by rw [hd]; rfl
     rwa [List.getElem?_drop, Nat.add_zero] at this
    have hlt : f.offset < us.size := by rw [hn]; exact (List.getElem?_eq_some_iff.1 hj).1
    have hu : us[f.offset]? = some us[f.offset] := Array.getElem?_eq_getElem hlt
    refine ⟨_, hh _ _ _ hj hu, fun w' => ?_⟩
    simp [Instr.field, run_underlying h1, h2, part, asAgg, run_isAgg h4, hu]
  ·exact h.elim
theorem mapAt_ok (I : Inv w0 B C0 n S C a w) {d : D} {es : List (Value × D)} {u : Value} (h : mapAt S d = some es) (hr : Rep C w d u) :
  (u = .map none ∧ es = []) ∨ ∃ r arr clock, u = .map (some r) ∧ w.heap[r]? = some (.map arr clock) ∧ arr.size = es.length ∧ ∀ (j : Nat) e x, es[j]? = some e → arr[j]? = some x → x.key = e.1 ∧ Rep C w e.2 x.val := by
 unfold mapAt at h
 split at h
 ·simp only [Option.some.injEq] at h
  exact .inl ⟨hr.v_inv, h.symm⟩
 ·rename_i s g
  split at h
  ·rename_i g' es' hl
   split at h
   ·rename_i hg
    simp only [Option.some.injEq] at h
    subst hg h
    obtain ⟨r, arr, clock, h1, _, h3, ⟨h4, _⟩, h5⟩ := I.heap s g' _ hl
    cases hr with
    | own _ _ _ hv _ =>
     rw [h1] at hv
     simp only [Option.some.injEq] at hv
     subst hv
     exact .inr ⟨r, arr, clock, rfl, h3, h4, h5⟩
   ·cases h
  ·cases h
 ·cases h
theorem pairR {d e : D} (u v : Value) (h : Rep C w d u) (h' : Rep C w e v) : Rep C w (.tup [d, e]) (.tuple #[u, v]) := by
 refine .tup _ _ rfl fun j c x hc hx => ?_
 match j, hc, hx with
 | 0, hc, hx =>
  simp at hc hx
  subst hc hx
  exact h
 | 1, hc, hx =>
  simp at hc hx
  subst hc hx
  exact h'
theorem lookup_ok (I : Inv w0 B C0 n S C a w) {t : TypeId} {dm dk : D} {um uk : Value} {ok : Bool} {k : D → Prop} (h : lookupK P S t dm dk ok k) :
  ∃ d', k d' ∧ (Rep C w dm um → Rep C w dk uk → ∃ u', Rep C w d' u' ∧ ∀ w', Same w w' → (Instr.lookup t um uk ok).run P w' = .ok u' w') := by
 unfold lookupK at h
 split at h
 ·rename_i tag e key es hm hes
  split at h
  ·rename_i z r hz hf
   obtain ⟨kt, hu, hk⟩ := mapOf_spec hm
   obtain ⟨kd, hkd, hk'⟩ : ∃ kd, P.underlying kt = some kd ∧ ((tag = 0 ∧ ∃ q, kd = .int q) ∨ (tag = 1 ∧ kd = .string)) := by
    rcases hk with ⟨h1, q, h2⟩ | ⟨h1, h2⟩
    ·exact ⟨_, h2, .inl ⟨h1, q, rfl⟩⟩
    ·exact ⟨_, h2, .inr ⟨h1, rfl⟩⟩
   have hzr : ∀ w' : World, (zeroValue e).run P w' = .ok z w' := fun w' => by
    unfold zeroV at hz
    obtain ⟨i, hi, hz⟩ := Option.bind_eq_some_iff.1 hz
    simp [zeroValue, typeInfo, hi, hz]
   have run : ∀ (um : Value) (arr : Array MapEntry) (w' : World), ((um = .map none ∧ arr = #[]) ∨ ∃ r clock, um = .map (some r) ∧ w'.heap[r]? = some (.map arr clock)) → ∀ x, Instr.findNow kd key arr.toList 0 = some x →
     (Instr.lookup t um key ok).run P w' = .ok (match x with | some (_, v) => if ok then .tuple #[v, .bool true] else v | none => if ok then .tuple #[z, .bool false] else z) w' := by
    intro um arr w' hc x hx
    rcases hc with ⟨rfl, rfl⟩ | ⟨r, clock, rfl, hh⟩
    ·simp only [Instr.lookup]
     simp only [Sem.run_bind, run_underlying hu, Result.andThen_ok]
     simp only [Sem.run_pure, Result.andThen_ok, Sem.run_bind, checkKey_ok hkd hk', Instr.findKey, run_underlying hkd, hx]
     cases x with
     | none => simp only [Sem.run_bind, Sem.run_pure, hzr, Result.andThen_ok]; try (cases ok <;> rfl)
     | some p => obtain ⟨_, v⟩ := p; simp only [Sem.run_bind, Sem.run_pure, Result.andThen_ok]; try (cases ok <;> rfl)
    ·simp only [Instr.lookup]
     simp only [Sem.run_bind, run_underlying hu, Result.andThen_ok]
     have hg : (getObj r).run P w' = .ok (.map arr clock) w' := by simp [getObj, Sem.run, hh]
     simp only [Sem.run_bind, hg, Sem.run_pure, Result.andThen_ok, checkKey_ok hkd hk', Instr.findKey, run_underlying hkd, hx]
     cases x with
     | none => simp only [Sem.run_bind, Sem.run_pure, hzr, Result.andThen_ok]; try (cases ok <;> rfl)
     | some p => obtain ⟨_, v⟩ := p; simp only [Sem.run_bind, Sem.run_pure, Result.andThen_ok]; try (cases ok <;> rfl)
   -- the entries
   have ents : Rep C w dm um → ∃ arr : Array MapEntry, arr.size = es.length ∧ (∀ (j : Nat) e x, es[j]? = some e → arr[j]? = some x → x.key = e.1 ∧ Rep C w e.2 x.val) ∧ ∀ w', Same w w' → ((um = .map none ∧ arr = #[]) ∨ ∃ r clock, um = .map (some r) ∧ w'.heap[r]? = some (.map arr clock)) := fun hr => by
    rcases mapAt_ok I hes hr with ⟨rfl, rfl⟩ | ⟨r, arr, clock, rfl, h3, h4, h5⟩
    ·exact ⟨#[], rfl, fun j e x h => by simp at h, fun w' _ => .inl ⟨rfl, rfl⟩⟩
    ·refine ⟨arr, h4, h5, fun w' hs => .inr ⟨r, clock, rfl, ?_⟩⟩
     have hlt : r < w.heap.size := (Array.getElem?_eq_some_iff.1 h3).1
     rw [hs.2 r hlt]; exact h3
   cases r with
   | none =>
    refine ⟨_, h, fun hr hk2 => ?_⟩
    obtain rfl := hk2.v_inv
    obtain ⟨arr, h1, h2, h3⟩ := ents hr
    have := (mfind_ok hk' 0 (arr := arr.toList) (by simpa using h1) (fun j e x q1 q2 => (h2 j e x q1 (by simpa using q2)).1) hf).1 rfl
    refine ⟨if ok then .tuple #[z, .bool false] else z, ?_, fun w' hs => run um arr w' (h3 w' hs) none this⟩
    cases ok with
    | true => exact pairR _ _ (.v _) (.v _)
    | false => exact .v _
   | some d =>
    refine ⟨_, h, fun hr hk2 => ?_⟩
    obtain rfl := hk2.v_inv
    obtain ⟨arr, h1, h2, h3⟩ := ents hr
    obtain ⟨j, e', x, q1, q2, q3, q4, _⟩ := (mfind_ok hk' 0 (arr := arr.toList) (by simpa using h1) (fun j e x q1 q2 => (h2 j e x q1 (by simpa using q2)).1) hf).2 d rfl
    have hv := (h2 j e' x q1 (by simpa using q2)).2
    rw [q3] at hv
    refine ⟨if ok then .tuple #[x.val, .bool true] else x.val, ?_, fun w' hs => run um arr w' (h3 w' hs) _ q4⟩
    cases ok with
    | true => exact pairR _ _ hv (.v _)
    | false => exact hv
  ·exact h.elim
 ·exact h.elim
theorem intToString_low {n : Int} (h0 : 0 ≤ n) (h1 : n < 128) : Conv.intToString n = pure (.string ⟨#[n.toNat.toUInt8]⟩) := by
 obtain ⟨m, rfl⟩ : ∃ m : Nat, n = m := ⟨n.toNat, by omega⟩
 have hm : m < 128 := by omega
 have e : ∀ m : Nat, m < 128 → Utf8.encode (m : Int) = ⟨#[(m : Int).toNat.toUInt8]⟩ := by decide +kernel
 simp only [Conv.intToString, e m hm]
theorem q_ok (I : Inv w0 B C0 n S C a w) {c : Bool} {o : Oper} {k : D → Prop} (h : qK P c S o.op k) : QOk P C w o a c k := by
 obtain ⟨dst, op, ty, pos, after, guard⟩ := o
 unfold QOk
 cases op with
 | move x =>
  obtain ⟨d, hd, hr⟩ := evK_ok I h
  exact ⟨d, hd, fun hc => ⟨_, hr hc, fun w' _ => by simp [execOp]⟩⟩
 | assign x =>
  obtain ⟨d, hd, hr⟩ := evK_ok I h
  exact ⟨d, hd, fun hc => ⟨_, hr hc, fun w' _ => by simp [execOp]⟩⟩
 | pick x y z =>
  simp only [qK] at h
  obtain ⟨dx, hx, hrx⟩ := evK_ok I h
  split at hx
  ·rename_i b
   obtain ⟨dy, hy, hry⟩ := evK_ok I hx
   obtain ⟨dz, hz, hrz⟩ := evK_ok I hy
   unfold bothK at hz
   split at hz
   ·rename_i p q
    refine ⟨_, hz, fun hc => ⟨_, .v _, fun w' _ => ?_⟩⟩
    have hxe := (hrx hc).v_inv
    cases b with
    | true =>
     have hye := (hry (by simp [hc])).v_inv
     simp [execOp, hxe, hye, asBool]
    | false =>
     have hze := (hrz (by simp [hc])).v_inv
     simp [execOp, hxe, hze, asBool]
   ·obtain ⟨hb, hz⟩ := hz
    subst hb
    refine ⟨_, hz, fun hc => ⟨_, .v _, fun w' _ => ?_⟩⟩
    have hxe := (hrx hc).v_inv
    have hye := (hry (by simp [hc])).v_inv
    simp [execOp, hxe, hye, asBool]
   ·obtain ⟨hb, hz⟩ := hz
    subst hb
    refine ⟨_, hz, fun hc => ⟨_, .v _, fun w' _ => ?_⟩⟩
    have hxe := (hrx hc).v_inv
    have hze := (hrz (by simp [hc])).v_inv
    simp [execOp, hxe, hze, asBool]
   ·exact hz.elim
  ·exact hx.elim
 | binOp op t x y yt =>
  simp only [qK] at h
  obtain ⟨dx, hx, hrx⟩ := evK_ok I h
  obtain ⟨dy, hy, hry⟩ := evK_ok I hx
  have key : ∀ (ux uy : Value), dx = .v ux → dy = .v uy → (∃ d, k d ∧ (c = true → ∃ u, d = .v u ∧ ∀ w', (do eqGuard op t x y ux uy; binOp op t ux uy : Sem Value).run P w' = .ok u w')) →
    ∃ d, k d ∧ (c = true → ∃ u, Rep C w d u ∧ ∀ w', (isLoad (.binOp op t x y yt) = true → Same w w') → (execOp a.eval ⟨dst, .binOp op t x y yt, ty, pos, after, guard⟩).run P w' = .ok (.value u) w') := by
   rintro ux uy rfl rfl ⟨d, hd, hu⟩
   refine ⟨d, hd, fun hc => ?_⟩
   obtain ⟨u, rfl, hrun⟩ := hu hc
   refine ⟨u, .v u, fun w' _ => ?_⟩
   have e1 := (hrx hc).v_inv
   have e2 := (hry hc).v_inv
   have hr := hrun w'
   simp only [execOp, e1, e2, Sem.run_bind] at hr ⊢
   rw [hr]
   simp
  have nilc : ∀ (es : List (List D)) (k2 : D → Prop), nilCmpK P t op es dy k2 → (c = true → ∃ ao n cap, a.eval x = .slice ao n cap ∧ (ao = none → es = [])) →
    ∃ d, k2 d ∧ (c = true → ∃ u, Rep C w d u ∧ ∀ w', (isLoad (.binOp op t x y yt) = true → Same w w') → (execOp a.eval ⟨dst, .binOp op t x y yt, ty, pos, after, guard⟩).run P w' = .ok (.value u) w') := by
   intro es k2 hn hx'
   unfold nilCmpK at hn
   split at hn
   ·obtain ⟨hu, hn⟩ := hn
    split at hu
    ·rename_i e he
     cases c with
     | false =>
      split at hn
      ·exact ⟨_, hn false (fun _ => rfl), fun h => by cases h⟩
      ·exact ⟨_, hn false (fun _ => rfl), fun h => by cases h⟩
      ·exact hn.elim
     | true =>
      obtain ⟨ao, n', cap, hxu, h0⟩ := hx' rfl
      have hyu := (hry rfl).v_inv
      have hb : es ≠ [] → ao.isNone = false := fun h => by cases ao with
       | none => exact absurd (h0 rfl) h
       | some _ => rfl
      split at hn
      ·refine ⟨_, hn _ hb, fun _ => ⟨_, .v _, fun w' _ => ?_⟩⟩
       have hr := (bin_nil (x := x) (y := y) he ao n' cap w').1
       simp only [execOp, hxu, hyu, Sem.run_bind] at hr ⊢
       rw [hr]
       simp
      ·refine ⟨_, hn _ hb, fun _ => ⟨_, .v _, fun w' _ => ?_⟩⟩
       have hr := (bin_nil (x := x) (y := y) he ao n' cap w').2
       simp only [execOp, hxu, hyu, Sem.run_bind] at hr ⊢
       rw [hr]
       simp
      ·exact hn.elim
    ·exact hu.elim
   ·exact hn.elim
  have ifc : ∀ (b : Bool) (k2 : D → Prop), isIface P t = true → (c = true → (a.eval x = .nilIface ∧ b = true) ∨ (∃ tt v, a.eval x = .iface tt v) ∧ b = false) → ifK op b dy k2 → y = .const .nilIface →
    ∃ d, k2 d ∧ (c = true → ∃ u, Rep C w d u ∧ ∀ w', (isLoad (.binOp op t x y yt) = true → Same w w') → (execOp a.eval ⟨dst, .binOp op t x y yt, ty, pos, after, guard⟩).run P w' = .ok (.value u) w') := by
   rintro b k2 h1 h2 h3 rfl
   unfold ifK at h3
   split at h3
   ·split at h3
    ·refine ⟨_, h3, fun hc => ⟨_, .v _, fun w' _ => ?_⟩⟩
     have hr := (if_run h1 .eql x _ b (h2 hc) w').1 rfl
     simp only [execOp, Sem.run_bind] at hr ⊢
     have e2 : a.eval (.const .nilIface) = .nilIface := rfl
     rw [e2, hr]
     simp
    ·refine ⟨_, h3, fun hc => ⟨_, .v _, fun w' _ => ?_⟩⟩
     have hr := (if_run h1 .neq x _ b (h2 hc) w').2 rfl
     simp only [execOp, Sem.run_bind] at hr ⊢
     have e2 : a.eval (.const .nilIface) = .nilIface := rfl
     rw [e2, hr]
     simp
    ·exact h3.elim
   ·exact h3.elim
  split at hy
  ·rename_i b
   obtain ⟨ht, hy⟩ := hy
   cases dy with
   | v uy => cases uy with
    | bool b2 => exact key _ _ rfl rfl (bin_bool ht hy)
    | _ => exact hy.elim
   | _ => exact hy.elim
  ·obtain ⟨h1, rfl, hy⟩ := hy
   exact ifc _ _ h1 (fun hc => .inl ⟨(hrx hc).v_inv, rfl⟩) hy rfl
  ·obtain ⟨h1, rfl, hy⟩ := hy
   exact ifc _ _ h1 (fun hc => .inr ⟨⟨_, _, (hrx hc).v_inv⟩, rfl⟩) hy rfl
  ·rename_i as
   unfold aggCmpK at hy
   split at hy
   ·rename_i bs
    split at hy
    ·rename_i l hl
     split at hy
     ·rename_i b hb
      have cellsOf : ∀ (ds : List D) (u : Value), Rep C w (.agg ds) u → ∃ us, u = .agg us ∧ ∀ (j : Nat) v, ds[j]? = some (.v v) → us[j]? = some v := fun ds u hr => by
       cases hr with
       | agg _ us hn hh =>
        refine ⟨us, rfl, fun j v hj => ?_⟩
        have hlt : j < us.size := by rw [hn]; exact (List.getElem?_eq_some_iff.1 hj).1
        have := (hh j _ us[j] hj (Array.getElem?_eq_getElem hlt)).v_inv
        rw [Array.getElem?_eq_getElem hlt, this]
      have run : c = true → ∃ us vs, a.eval x = .agg us ∧ a.eval y = .agg vs ∧ ∀ w', (op = .eql → (do eqGuard op t x y (.agg us) (.agg vs); binOp op t (.agg us) (.agg vs) : Sem Value).run P w' = .ok (.bool b) w') ∧
        (op = .neq → (do eqGuard op t x y (.agg us) (.agg vs); binOp op t (.agg us) (.agg vs) : Sem Value).run P w' = .ok (.bool !b) w') := fun hc => by
       obtain ⟨us, e1, h1⟩ := cellsOf _ _ (hrx hc)
       obtain ⟨vs, e2, h2⟩ := cellsOf _ _ (hry hc)
       exact ⟨us, vs, e1, e2, fun w' => aggCmp_run hl hb x y op h1 h2 w'⟩
      split at hy
      ·refine ⟨_, hy, fun hc => ⟨_, .v _, fun w' _ => ?_⟩⟩
       obtain ⟨us, vs, e1, e2, hr⟩ := run hc
       have hr := (hr w').1 rfl
       simp only [execOp, e1, e2, Sem.run_bind] at hr ⊢
       rw [hr]
       simp
      ·refine ⟨_, hy, fun hc => ⟨_, .v _, fun w' _ => ?_⟩⟩
       obtain ⟨us, vs, e1, e2, hr⟩ := run hc
       have hr := (hr w').2 rfl
       simp only [execOp, e1, e2, Sem.run_bind] at hr ⊢
       rw [hr]
       simp
      ·exact hy.elim
     ·exact hy.elim
    ·exact hy.elim
   ·exact hy.elim
  ·rename_i es
   exact nilc _ _ hy fun hc => by
    obtain ⟨ao, cap, hu, _⟩ := len_sl (hrx hc)
    refine ⟨ao, _, cap, hu, fun h0 => ?_⟩
    subst h0
    have hr := hrx hc
    rw [hu] at hr
    cases hr
    rfl
  ·rename_i s g
   split at hy
   ·rename_i e' k' es hro
    exact nilc _ _ hy fun hc => by
     obtain ⟨u, xs, hv, _, hown, _, _⟩ := I.heap s g _ (rowOf_spec hro)
     have hr := hrx hc
     cases hr with
     | own _ _ _ hv2 _ =>
      rw [hv] at hv2
      simp only [Option.some.injEq] at hv2
      subst hv2
      rcases hown.2 with ⟨hu, h0⟩ | ⟨gb, cap, cur, hu, _⟩
      ·exact ⟨none, 0, 0, hu, fun _ => List.eq_nil_of_length_eq_zero h0⟩
      ·exact ⟨_, _, _, hu, fun h => by cases h⟩
   ·exact hy.elim
  ·rename_i s g o
   unfold ptrCmpK at hy
   split at hy
   ·rename_i s' g' o'
    obtain ⟨rfl, rfl, ht, hy⟩ := hy
    have both : c = true → ∃ b, a.eval x = .pointer (some ⟨b, o, none⟩) ∧ a.eval y = .pointer (some ⟨b, o', none⟩) := fun hc => by
     have r1 := hrx hc
     have r2 := hry hc
     generalize a.eval x = ux at *
     generalize a.eval y = uy at *
     cases r1 with
     | ptr _ _ _ b hv =>
      cases r2 with
      | ptr _ _ _ b' hv' =>
       rw [hv] at hv'
       cases hv'
       exact ⟨b, rfl, rfl⟩
    split at hy
    ·refine ⟨_, hy, fun hc => ⟨_, .v _, fun w' _ => ?_⟩⟩
     obtain ⟨b, e1, e2⟩ := both hc
     have hr := (ptr_run ht .eql x y b o o' w').1 rfl
     simp only [execOp, e1, e2, Sem.run_bind] at hr ⊢
     rw [hr]
     simp
    ·refine ⟨_, hy, fun hc => ⟨_, .v _, fun w' _ => ?_⟩⟩
     obtain ⟨b, e1, e2⟩ := both hc
     have hr := (ptr_run ht .neq x y b o o' w').2 rfl
     simp only [execOp, e1, e2, Sem.run_bind] at hr ⊢
     rw [hr]
     simp
    ·exact hy.elim
   ·exact hy.elim
  ·rename_i hnb hni hni2 _ _ _ _
   cases dx with
   | v ux =>
    cases dy with
    | v uy =>
     cases ux <;> cases uy <;> first
      | exact hy.elim
      | exact absurd rfl (hnb _)
      | exact absurd rfl hni
      | exact absurd rfl (hni2 _ _)
      | exact key _ _ rfl rfl (bin_str hy)
      | exact key _ _ rfl rfl (bin_int hy)
    | _ => cases ux <;> exact hy.elim
   | _ => exact hy.elim
 | unOp op t x =>
  simp only [qK] at h
  obtain ⟨dx, hx, hrx⟩ := evK_ok I h
  split at hx
  ·rename_i b
   refine ⟨_, hx, fun hc => ⟨_, .v _, fun w' _ => ?_⟩⟩
   simp [execOp, (hrx hc).v_inv, Op.unary]
  ·rename_i kd i
   split at hx
   ·rename_i e0
    subst e0
    refine ⟨_, hx.2, fun hc => ⟨_, .v _, fun w' _ => ?_⟩⟩
    have := hx.1 hc
    simp [execOp, (hrx hc).v_inv, Op.unary, Op.intArith, inr_wrap this]
   ·refine ⟨_, hx, fun hc => ⟨_, .v _, fun w' _ => ?_⟩⟩
    simp [execOp, (hrx hc).v_inv, Op.unary, Op.intArith]
  ·exact hx.elim
 | convert src dst' x =>
  simp only [qK] at h
  obtain ⟨dx, hx, hrx⟩ := evK_ok I h
  split at hx
  ·rename_i ki i d1 h1 h2
   refine ⟨_, hx.2, fun hc => ⟨_, .v _, fun w' _ => ?_⟩⟩
   have := hx.1 hc
   simp [execOp, (hrx hc).v_inv, convert, run_underlying h1, run_underlying h2, Conv.intToInt, inr_wrap this]
  ·rename_i ki i d1 kd _ h1 h2
   refine ⟨_, hx, fun hc => ⟨_, .v _, fun w' _ => ?_⟩⟩
   simp [execOp, (hrx hc).v_inv, convert, run_underlying h1, run_underlying h2, Conv.intToInt]
  ·rename_i s d1 h1 h2
   refine ⟨_, hx, fun hc => ⟨_, .v _, fun w' _ => ?_⟩⟩
   simp [execOp, (hrx hc).v_inv, convert, run_underlying h1, run_underlying h2]
  ·rename_i ki i d1 h1 h2
   refine ⟨_, hx.2, fun hc => ⟨_, .v _, fun w' _ => ?_⟩⟩
   have := hx.1 hc
   simp [execOp, (hrx hc).v_inv, convert, run_underlying h1, run_underlying h2, intToString_low this.1 this.2]
  ·exact hx.elim
 | fieldAddr t x i =>
  simp only [qK] at h
  obtain ⟨dx, hx, hrx⟩ := evK_ok I h
  split at hx
  ·rename_i o agg s hf
   obtain ⟨d', hd', hr'⟩ := fieldAddr_ok (C := C) (w := w) (u := a.eval x) hf hx.1 hx.2
   refine ⟨d', hd', fun hc => ?_⟩
   obtain ⟨u', hu', hrun⟩ := hr' (hrx hc)
   exact ⟨u', hu', fun w' _ => by simp [execOp, hrun w']⟩
  ·exact hx.elim
 | field t x i =>
  simp only [qK] at h
  obtain ⟨dx, hx, hrx⟩ := evK_ok I h
  split at hx
  ·rename_i o agg s cs hf
   obtain ⟨d', hd', hr'⟩ := field_ok (C := C) (w := w) (u := a.eval x) hf hx
   refine ⟨d', hd', fun hc => ?_⟩
   obtain ⟨u', hu', hrun⟩ := hr' (hrx hc)
   exact ⟨u', hu', fun w' _ => by simp [execOp, hrun w']⟩
  ·exact hx.elim
 | indexAddr t x y =>
  simp only [qK] at h
  obtain ⟨dx, hx, hrx⟩ := evK_ok I h
  obtain ⟨dy, hy, hry⟩ := evK_ok I hx
  split at hy
  ·rename_i e sz by' ik i hs
   obtain ⟨d', hd', hr'⟩ := idx_ok (P := P) I hs (ik := ik) (u := a.eval x) hy
   refine ⟨d', hd', fun hc => ?_⟩
   obtain ⟨u', hu', hrun⟩ := hr' hc (hrx hc)
   exact ⟨u', hu', fun w' _ => by simp [execOp, (hry hc).v_inv, hrun w']⟩
  ·rename_i ik i hs
   split at hy
   ·rename_i m sz ha
    obtain ⟨d', hd', hr'⟩ := arrAddr_ok (C := C) (w := w) (ik := ik) (i := i) ha (u := a.eval x) hy.2
    refine ⟨d', hd', fun hc => ?_⟩
    obtain ⟨u', hu', hrun⟩ := hr' (hy.1 hc) (hrx hc)
    exact ⟨u', hu', fun w' _ => by simp [execOp, (hry hc).v_inv, hrun w']⟩
   ·exact hy.elim
  ·exact hy.elim
 | index t x y =>
  simp only [qK] at h
  obtain ⟨dx, hx, hrx⟩ := evK_ok I h
  obtain ⟨dy, hy, hry⟩ := evK_ok I hx
  split at hy
  ·rename_i s ik i hs
   split at hy
   ·rename_i b hb
    refine ⟨_, hy.2, fun hc => ⟨_, .v _, fun w' _ => ?_⟩⟩
    have h0 := hy.1 hc
    have hb' : s[i.toNat]? = some b := by
     rw [List.getElem?_eq_some_iff] at hb
     obtain ⟨hlt, hb⟩ := hb
     have hlt' : i.toNat < s.size := by simpa using hlt
     rw [getElem?_pos s i.toNat hlt']
     simp only [Option.some.injEq]
     rw [← hb]
     simp
     rfl
    simp [execOp, (hrx hc).v_inv, (hry hc).v_inv, Instr.index, asIntOf, run_underlying hs, h0, hb']
   ·exact hy.elim
  ·exact hy.elim
 | load t x =>
  simp only [qK] at h
  obtain ⟨dx, hx, hrx⟩ := evK_ok I h
  obtain ⟨d', hd', hr'⟩ := loadK_ok I (u := a.eval x) hx
  refine ⟨d', hd', fun hc => ?_⟩
  obtain ⟨u', hu', hrun⟩ := hr' (hrx hc)
  exact ⟨u', hu', fun w' hs => by simp [execOp, hrun w' (hs rfl)]⟩
 | lookup t x y ok =>
  simp only [qK] at h
  obtain ⟨dx, hx, hrx⟩ := evK_ok I h
  obtain ⟨dy, hy, hry⟩ := evK_ok I hx
  obtain ⟨d', hd', hr'⟩ := lookup_ok I (um := a.eval x) (uk := a.eval y) hy
  refine ⟨d', hd', fun hc => ?_⟩
  obtain ⟨u', hu', hrun⟩ := hr' (hrx hc) (hry hc)
  exact ⟨u', hu', fun w' hs => by simp [execOp, hrun w' (hs rfl)]⟩
 | nilCheck x =>
  simp only [qK] at h
  obtain ⟨dx, hx, hrx⟩ := evK_ok I h
  refine ⟨dx, hx.2, fun hc => ⟨_, hrx hc, fun w' _ => ?_⟩⟩
  have hp := hx.1
  have hr := hrx hc
  have hn : ∃ ad, a.eval x = .pointer (some ad) := by
   generalize a.eval x = u at hr
   cases hr <;> first | exact ⟨_, rfl⟩ | (simp [ptrLike] at hp; done) | skip
   cases u with
   | pointer q => cases q with
    | none => simp [ptrLike] at hp
    | some ad => exact ⟨ad, rfl⟩
   | _ => simp [ptrLike] at hp
  obtain ⟨ad, hn⟩ := hn
  simp [execOp, hn]
 | slice t x lo hi mx =>
  cases mx with
  | some m =>
   cases lo with
   | some _ => exact h.elim
   | none =>
    cases hi with
    | none => exact h.elim
    | some y =>
     simp only [qK] at h
     obtain ⟨dx, hx, hrx⟩ := evK_ok I h
     obtain ⟨dy, hy, hry⟩ := evK_ok I hx
     obtain ⟨dz, hz, hrz⟩ := evK_ok I hy
     split at hz
     ·rename_i k' es
      obtain ⟨hm, rfl, rfl, hk⟩ := hz
      refine ⟨_, hk, fun hc => ?_⟩
      have ey := (hry hc).v_inv
      have ez := (hrz hc).v_inv
      split at hm
      ·rename_i e s b hs
       subst hm
       obtain ⟨u', hu', hrun⟩ := clip_sl hs (hrx hc)
       exact ⟨u', hu', fun w' _ => by simp only [execOp, ey, ez, Option.map_none, Option.map_some, Sem.run_bind, hrun w']; simp⟩
      ·exact hm.elim
     ·exact hz.elim
  | none =>
   simp only [qK] at h
   obtain ⟨dx, hx, hrx⟩ := evK_ok I h
   obtain ⟨l, k1, hl, hel⟩ := optI_ok I hx
   obtain ⟨u, k2, hu, heu⟩ := optI_ok I hl
   have fin : (∃ d', k d' ∧ (c = true → Rep C w dx (a.eval x) → ∃ u', Rep C w d' u' ∧ ∀ w', (Instr.sliceAt t (a.eval x) (l.map (Value.int k1)) (u.map (Value.int k2)) none).run P w' = .ok u' w')) →
     ∃ d, k d ∧ (c = true → ∃ u, Rep C w d u ∧ ∀ w', (isLoad (.slice t x lo hi none) = true → Same w w') → (execOp a.eval ⟨dst, .slice t x lo hi none, ty, pos, after, guard⟩).run P w' = .ok (.value u) w') := by
    rintro ⟨d', hd', hr'⟩
    refine ⟨d', hd', fun hc => ?_⟩
    obtain ⟨u', hu', hrun⟩ := hr' hc (hrx hc)
    exact ⟨u', hu', fun w' _ => by simp only [execOp, hel hc, heu hc, Option.map_none, Sem.run_bind, hrun w']; simp⟩
   split at hu
   ·rename_i s
    exact fin (cut_ok I (P := P) (t := t) hu.2 (fun _ _ => hu.1) (fun k' es hh => by
     rcases hh with hh | ⟨_, _, hh, _⟩ <;> cases hh))
   ·rename_i k' es
    obtain ⟨hm, hu⟩ := hu
    refine fin (cut_ok I (P := P) (t := t) hu (fun _ hh => by cases hh) (fun k'' es' hh => ?_))
    rcases hh with hh | ⟨_, _, hh, _⟩
    ·cases hh
     split at hm
     ·rename_i e s b hs
      subst hm
      exact ⟨e, b, hs⟩
     ·exact hm.elim
    ·cases hh
   ·rename_i s g
    split at hu
    ·rename_i e k1 es hro
     obtain ⟨hm, rfl, rfl, hu⟩ := hu
     split at hu
     ·rename_i i
      obtain ⟨h0, hj, hk⟩ := hu
      refine fin ⟨_, hk, fun hc hrx => ?_⟩
      obtain ⟨u, xs, hv, hlive, hown, hkk, hall⟩ := I.heap s g _ (rowOf_spec hro)
      have hxu : a.eval x = u := by
       cases hrx with
       | own _ _ _ q _ => rw [hv] at q; simp only [Option.some.injEq] at q; exact q.symm
      split at hm
      ·rename_i e2 s2 b2 hs
       subst hm
       obtain ⟨inf, i1, i2, i3, _⟩ := slOf_spec hs
       rcases hown.2 with ⟨rfl, hn0⟩ | ⟨gb, cap, cur, rfl, hzb, hg, hnc, hcm, hcs, htake⟩
       ·omega
       refine ⟨.slice (some ⟨gb, i.toNat, none⟩) (es.length - i.toNat) (cap - i.toNat), .sub _ _ _ _ _ _ hv (by omega), fun w' => ?_⟩
       have := run_bounds (P := P) (isS := true) (len := es.length) (cap := cap) (lo := some i) (hi := none) (k1 := k1) (k2 := k2) hnc (by simp; omega) w'
       simp at this
       simp [hxu, Instr.sliceAt, Instr.slice, run_underlying i1, this, run_sizeOf' i2, i3]
       rw [if_neg (by omega)]
       simp [Addr.add_lit]
      ·exact hm.elim
     ·exact hu.elim
    ·obtain ⟨hm, hu⟩ := hu
     refine fin (cut_ok I (P := P) (t := t) hu (fun _ hh => by cases hh) (fun k'' es' hh => ?_))
     rcases hh with hh | ⟨s', g', hh, hf⟩
     ·cases hh
     ·cases hh
      rw [hf] at hm
      split at hm
      ·rename_i e s b k3 es3 hs hf3
       subst hm
       simp only [Option.some.injEq, Prod.mk.injEq] at hf3
       obtain ⟨rfl, _⟩ := hf3
       exact ⟨e, b, hs⟩
      ·exact hm.elim
   ·exact fin (arrCut_ok hu)
   ·exact hu.elim
 | extract x i =>
  simp only [qK] at h
  obtain ⟨dx, hx, hrx⟩ := evK_ok I h
  split at hx
  ·rename_i ds
   split at hx
   ·rename_i d hd
    refine ⟨d, hx, fun hc => ?_⟩
    have hr := hrx hc
    generalize hE : a.eval x = u at hr
    cases hr with
    | tup _ us hn hh =>
     have hlt : i < us.size := by rw [hn]; exact (List.getElem?_eq_some_iff.1 hd).1
     have hu : us[i]? = some us[i] := Array.getElem?_eq_getElem hlt
     exact ⟨_, hh _ _ _ hd hu, fun w' _ => by simp [execOp, hE, Instr.extract, hu]⟩
   ·exact hx.elim
  ·exact hx.elim
 | build t parts =>
  simp only [qK] at h
  obtain ⟨ds, hds, hlen, hrs⟩ := evsK_ok I h
  split at hds
  ·rename_i place zs hb
   split at hds
   ·rename_i cs hf
    refine ⟨_, hds, fun hc => ?_⟩
    have hz := Cells.vals (C := C) (w := w) zs
    simp only [List.length_map] at hlen
    obtain ⟨r, hr, hcells⟩ := fill_ok (C := C) (w := w) (place := place) ((parts.toList.map (·.1)).zip ds) (parts.toList.map fun (i, x) => (i, a.eval x)) (zs.map .v) zs.toArray cs hf (by simpa using hz)
     (by rw [List.map_fst_zip (by simp [hlen]), List.map_map]; rfl)
     (fun j p q hp hq => by
      rw [List.getElem?_map] at hq
      cases hx : parts.toList[j]? with
      | none => rw [hx] at hq; cases hq
      | some x =>
       rw [hx] at hq
       simp only [Option.map_some, Option.some.injEq] at hq
       subst hq
       rw [List.getElem?_zip_eq_some] at hp
       exact hrs hc j x.2 p.2 (by rw [List.getElem?_map, hx]; rfl) hp.2)
    refine ⟨.agg r, .agg _ _ (by rw [← hcells.1]; simp) (fun j c u hj hu => hcells.2 j c u hj (by simpa using hu)), fun w' _ => ?_⟩
    have hbuilt : P.built t (parts.map fun (i, x) => (i, a.eval x)).toList = some r := by
     exact bldOf_spec hb _ (by rw [← hr]; simp)
    simp only [execOp, Sem.run_bind, run_build w' t _ r hbuilt]
    simp
   ·exact hds.elim
  ·exact hds.elim
 | makeFunc fn first captured =>
  obtain ⟨rfl, h⟩ := h
  split at h
  ·split at h
   ·rename_i hc
    have hc : captured = #[] := by rw [← Array.toArray_toList (xs := captured), hc]
    subst hc
    exact ⟨_, h, fun _ => ⟨_, .v _, fun w' _ => by simp [execOp, Instr.makeFunc]⟩⟩
   ·obtain ⟨ds, hk, hlen, hr⟩ := evsK_ok I h
    refine ⟨_, hk, fun hc => ⟨.func (.func _) #[] (captured.map a.eval), .fn _ _ _ (by simp [hlen]) (fun j d u hd hu => ?_), fun w' _ => by simp [execOp, Instr.makeFunc]⟩⟩
    rw [Array.getElem?_map] at hu
    cases hx : captured[j]? with
    | none => rw [hx] at hu; cases hu
    | some x =>
     rw [hx] at hu
     simp only [Option.map_some, Option.some.injEq] at hu
     subst hu
     exact hr hc j x d (by simpa using hx) hd
  ·exact h.elim
 | call cl =>
  obtain ⟨callee, args, argTypes⟩ := cl
  cases callee with
  | value f => exact h.elim
  | invoke r m => exact h.elim
  | builtin b =>
   have two : ∀ {x y : Operand}, args.toList = [x, y] → args = #[x, y] := fun {x y} e => by
    rw [← Array.toArray_toList (xs := args), e]
   cases b with
   | len =>
    simp only [qK] at h
    split at h
    ·rename_i x t ha ht
     obtain ⟨dx, hx, hrx⟩ := evK_ok I h
     have ha' : args = #[x] := by rw [← Array.toArray_toList (xs := args), ha]
     have ht' : argTypes = #[t] := by rw [← Array.toArray_toList (xs := argTypes), ht]
     subst ha' ht'
     obtain ⟨hty, hx⟩ := hx
     have hl : (∀ s, dx ≠ .v (.string s)) → ∃ e, P.underlying t = some (.slice e) := fun hns => by
      have : (match slOf P t with | some _ => True | none => False) := by
       split at hty
       ·rename_i s; exact absurd rfl (hns s)
       ·exact hty
      split at this
      ·rename_i y hy
       obtain ⟨e, s, b⟩ := y
       obtain ⟨i, h1, _⟩ := slOf_spec hy
       exact ⟨e, h1⟩
      ·exact this.elim
     obtain ⟨d', hd', hr'⟩ := len_ok (P := P) I (t := t) (ty := ty) (u := a.eval x) hx (fun s hs => by subst hs; exact hty) hl
     refine ⟨d', hd', fun hc => ?_⟩
     obtain ⟨u', hu', hrun⟩ := hr' (hrx hc)
     exact ⟨u', hu', fun w' _ => by simp [execOp, resolve, invoke, builtin, hrun w']⟩
    ·exact h.elim
   | min =>
    simp only [qK] at h
    split at h
    ·rename_i x y ha
     obtain ⟨dx, hx, hrx⟩ := evK_ok I h
     obtain ⟨dy, hy, hry⟩ := evK_ok I hx
     have ha' := two ha
     subst ha'
     split at hy
     ·rename_i i j
      exact ⟨_, hy, fun hc => ⟨_, .v _, fun w' _ => by simp [execOp, resolve, invoke, builtin, (hrx hc).v_inv, (hry hc).v_inv, Builtin.min_, Builtin.min2]⟩⟩
     ·exact hy.elim
    ·exact h.elim
   | max =>
    simp only [qK] at h
    split at h
    ·rename_i x y ha
     obtain ⟨dx, hx, hrx⟩ := evK_ok I h
     obtain ⟨dy, hy, hry⟩ := evK_ok I hx
     have ha' := two ha
     subst ha'
     split at hy
     ·rename_i i j
      exact ⟨_, hy, fun hc => ⟨_, .v _, fun w' _ => by simp [execOp, resolve, invoke, builtin, (hrx hc).v_inv, (hry hc).v_inv, Builtin.max_, Builtin.max2]⟩⟩
     ·exact hy.elim
    ·exact h.elim
   | _ => exact h.elim
 | _ => exact h.elim
end
end Go.Eng
