/- Part of a proof: see the last text. -/
import Derived.WalkKit
import Derived.Laws.AppendOwnNone
import Derived.Laws.CopyOwn
import Derived.Deep.Draws
import Derived.KernelRfl
import Derived.Lib.FrozenHead
import Derived.Laws.Tables
set_option linter.unusedVariables false
set_option linter.unusedSimpArgs false
namespace Go.Eng

/-- Abstract values: data by value; own memory by a named handle (site, generation). -/
inductive D where
  | v (x : Value)
  | agg (cs : List D)
  | tup (cs : List D)
  | sl (k : Nat) (es : List (List D))
  | own (s g : Nat)
  | ptr (s g off : Nat)
  | elt (s g k i off : Nat)
  | rd (cs : List D)
  | when (c : Bool) (d : D)
  | fn (f : FuncId) (cs : List D)

structure Ctx where
  val : Nat → Nat → Option Value
  live : Nat → Nat → Bool

def blk : Value → Option Nat
  | .pointer (some a) => some a.block
  | .slice (some a) _ _ => some a.block
  | .map (some r) => some r
  | _ => none

def Ctx.owns (C : Ctx) (b : Nat) : Prop := ∃ s g u, C.val s g = some u ∧ C.live s g = true ∧ blk u = some b

inductive Rep (C : Ctx) (w : World) : D → Value → Prop
  | v (x : Value) : Rep C w (.v x) x
  | agg (cs : List D) (us : Array Value) (hn : us.size = cs.length) (h : ∀ (j : Nat) c u, cs[j]? = some c → us[j]? = some u → Rep C w c u) : Rep C w (.agg cs) (.agg us)
  | tup (cs : List D) (us : Array Value) (hn : us.size = cs.length) (h : ∀ (j : Nat) c u, cs[j]? = some c → us[j]? = some u → Rep C w c u) : Rep C w (.tup cs) (.tuple us)
  | own (s g : Nat) (u : Value) (h : C.val s g = some u) (h1 : u.oneCell' = true) : Rep C w (.own s g) u
  | ptr (s g off b : Nat) (h : C.val s g = some (.pointer (some ⟨b, 0, none⟩))) : Rep C w (.ptr s g off) (.pointer (some ⟨b, off, none⟩))
  | elt (s g k i off b n c : Nat) (h : C.val s g = some (.slice (some ⟨b, 0, none⟩) n c)) : Rep C w (.elt s g k i off) (.pointer (some ⟨b, i * k + off, none⟩))
  | rd (cs : List D) (b o : Nat) (us : Nat → Value) (hc : ∀ (j : Nat) c, cs[j]? = some c → ¬ C.owns b ∧ w.cell? ⟨b, o + j, none⟩ = some (us j))
      (h : ∀ (j : Nat) c, cs[j]? = some c → Rep C w c (us j)) : Rep C w (.rd cs) (.pointer (some ⟨b, o, none⟩))
  | slE (k : Nat) (a : Option Addr) (cap : Nat) (hm : cap ≤ maxLen) : Rep C w (.sl k []) (.slice a 0 cap)
  | sl (k : Nat) (es : List (List D)) (b o cap : Nat) (us : Nat → Nat → Value) (hl : es.length ≤ cap) (hm : cap ≤ maxLen) (hk : ∀ e ∈ es, e.length = k)
      (hc : ∀ (i j : Nat) e c, es[i]? = some e → e[j]? = some c → ¬ C.owns b ∧ w.cell? ⟨b, o + (i * k + j), none⟩ = some (us i j))
      (h : ∀ (i j : Nat) e c, es[i]? = some e → e[j]? = some c → Rep C w c (us i j)) : Rep C w (.sl k es) (.slice (some ⟨b, o, none⟩) es.length cap)
  | whenT (d : D) (u : Value) (h : Rep C w d u) : Rep C w (.when true d) u
  | whenF (d : D) : Rep C w (.when false d) undef
  | fn (f : FuncId) (cs : List D) (us : Array Value) (hn : us.size = cs.length) (h : ∀ (j : Nat) c u, cs[j]? = some c → us[j]? = some u → Rep C w c u) : Rep C w (.fn f cs) (.func (.func f) #[] us)

/-- what a step may do to the context and the world, seen from data -/
structure Ext (C : Ctx) (w : World) (C' : Ctx) (w' : World) : Prop where
  val : ∀ s g x, C.val s g = some x → C'.val s g = some x
  owns : ∀ b, b < w.heap.size → C'.owns b → C.owns b
  heap : ∀ b, b < w.heap.size → ¬ C.owns b → w'.heap[b]? = w.heap[b]?
  size : w.heap.size ≤ w'.heap.size

theorem Ext.refl (C : Ctx) (w : World) : Ext C w C w := ⟨fun _ _ _ h => h, fun _ _ h => h, fun _ _ _ => rfl, Nat.le_refl _⟩
theorem Ext.trans {C C1 C2 : Ctx} {w w1 w2 : World} (h : Ext C w C1 w1) (k : Ext C1 w1 C2 w2) : Ext C w C2 w2 where
  val := fun s g x e => k.val s g x (h.val s g x e)
  owns := fun b hb e => h.owns b hb (k.owns b (Nat.lt_of_lt_of_le hb h.size) e)
  heap := fun b hb e => (k.heap b (Nat.lt_of_lt_of_le hb h.size) (fun e' => e (h.owns b hb e'))).trans (h.heap b hb e)
  size := Nat.le_trans h.size k.size

theorem cell_lt {w : World} {a : Addr} {v : Value} (h : w.cell? a = some v) : a.block < w.heap.size := block_lt_of_cell h

theorem Rep.mono {C C' : Ctx} {w w' : World} (e : Ext C w C' w') {d : D} {u : Value} (h : Rep C w d u) : Rep C' w' d u := by
  induction h with
  | v x => exact .v x
  | agg cs us hn _ ih => exact .agg cs us hn ih
  | tup cs us hn _ ih => exact .tup cs us hn ih
  | own s g u h h1 => exact .own s g u (e.val _ _ _ h) h1
  | ptr s g off b h => exact .ptr s g off b (e.val _ _ _ h)
  | elt s g k i off b n c h => exact .elt s g k i off b n c (e.val _ _ _ h)
  | rd cs b o us hc _ ih =>
    refine .rd cs b o us (fun j c hj => ?_) ih
    obtain ⟨h1, h2⟩ := hc j c hj
    have hb := cell_lt h2
    exact ⟨fun x => h1 (e.owns _ hb x), (World.cell?_of_block (e.heap _ hb h1)).trans h2⟩
  | slE k a cap hm => exact .slE k a cap hm
  | sl k es b o cap us hl hm hk hc _ ih =>
    refine .sl k es b o cap us hl hm hk (fun i j e' c hi hj => ?_) ih
    obtain ⟨h1, h2⟩ := hc i j e' c hi hj
    have hb := cell_lt h2
    exact ⟨fun x => h1 (e.owns _ hb x), (World.cell?_of_block (e.heap _ hb h1)).trans h2⟩
  | whenT d u _ ih => exact .whenT d u ih
  | whenF d => exact .whenF d
  | fn f cs us hn _ ih => exact .fn f cs us hn ih

inductive Blk where
  | box (cs : List D)
  | row (e k : Nat) (es : List (List D))
  | froz (k : Nat) (es : List (List D))
  | map (es : List (Value × D))
  /-- a Builder of the library, of type t: its row of bytes is named apart -/
  | bld (t nr gr : Nat)
  /-- the row of bytes of a Builder, of elements e -/
  | brow (e : Nat) (l : List UInt8)

structure St where
  slots : List (Nat × D)
  heap : List (Nat × (Nat × Blk))

def look {α : Type} : List (Nat × α) → Nat → Option α
  | [], _ => none
  | (k, x) :: l, i => if k = i then some x else look l i

def HRep (C : Ctx) (w : World) (s g : Nat) : Blk → Prop
  | .box cs => ∃ b arr ty, C.val s g = some (.pointer (some ⟨b, 0, none⟩)) ∧ C.live s g = true ∧ w.heap[b]? = some (.cells arr ty (0, 0)) ∧ arr.size = cs.length ∧
      ∀ (j : Nat) c u, cs[j]? = some c → arr[j]? = some u → Rep C w c u ∧ u.oneCell' = true
  | .row e k es => ∃ u xs, C.val s g = some u ∧ C.live s g = true ∧ w.ownsRow 0 e k u es.length xs ∧ (∀ e' ∈ es, e'.length = k) ∧
      ∀ (i j : Nat) e' c x, es[i]? = some e' → e'[j]? = some c → xs[i * k + j]? = some x → Rep C w c x ∧ x.oneCell' = true
  | .froz k es => ∃ u, C.val s g = some u ∧ Rep C w (.sl k es) u
  | .map es => ∃ r arr clock, C.val s g = some (.map (some r)) ∧ C.live s g = true ∧ w.heap[r]? = some (.map arr clock) ∧ arr.size = es.length ∧
      ∀ (j : Nat) e x, es[j]? = some e → arr[j]? = some x → x.key = e.1 ∧ Rep C w e.2 x.val
  | .bld t nr gr => ∃ b p v, C.val s g = some (.pointer (some ⟨b, 0, none⟩)) ∧ C.live s g = true ∧ w.heap[b]? = some (.cells #[p, v] t (0, 0)) ∧
      (p = .pointer none ∨ p = .pointer (some ⟨b, 0, none⟩)) ∧ C.val nr gr = some v
  | .brow e l => ∃ u, C.val s g = some u ∧ C.live s g = true ∧ w.ownsRowF 0 e 1 u l.length (Lib.byteCells l)

structure Frm (w0 : World) (B : Nat → Prop) (w : World) : Prop where
  os : w.os = w0.os
  tape : w.tape = w0.tape
  output : w.output = w0.output
  size : w0.heap.size ≤ w.heap.size
  block : ∀ b, b < w0.heap.size → ¬ B b → w.heap[b]? = w0.heap[b]?

theorem Frm.refl (w : World) (B : Nat → Prop) : Frm w B w := ⟨rfl, rfl, rfl, Nat.le_refl _, fun _ _ _ => rfl⟩

/-- the blocks of what was lent -/
def bB (C0 : Ctx) (B : Nat → Nat → Prop) (b : Nat) : Prop := ∃ s g u, B s g ∧ C0.val s g = some u ∧ blk u = some b

/-- the tie between an abstract state and a frame's slots and a world -/
structure Inv (w0 : World) (B : Nat → Nat → Prop) (C0 : Ctx) (n : Nat) (S : St) (C : Ctx) (a : Act) (w : World) : Prop where
  size : a.tmps.size = n
  defers : a.defers = []
  slots : ∀ k d, look S.slots k = some d → ∃ u, a.tmps[k]? = some u ∧ Rep C w d u
  heap : ∀ s g b, look S.heap s = some (g, b) → HRep C w s g b
  mine : ∀ s g b x u, look S.heap s = some (g, x) → C.live s g = true → C.val s g = some u → blk u = some b → w0.heap.size ≤ b ∨ (bB C0 B b ∧ 900000 ≤ s)
  apart : ∀ s g u s' g' u' b, C.val s g = some u → C.live s g = true → C.val s' g' = some u' → C.live s' g' = true → blk u = some b → blk u' = some b → s = s' ∧ g = g'
  bound : ∀ s g u b, C.val s g = some u → C.live s g = true → blk u = some b → b < w.heap.size
  fresh : ∀ s, ∃ N, ∀ g, N ≤ g → C.val s g = none
  frame : Frm w0 (bB C0 B) w
  /-- what was named before is named still, and what is owned now was owned, or is new -/
  old : ∀ s g x, C0.val s g = some x → C.val s g = some x
  owned : ∀ b, b < w0.heap.size → C.owns b → C0.owns b
  kept : ∀ s g u, C0.val s g = some u → C0.live s g = true → ¬ B s g → C.live s g = true
  ents : ∀ s g x y, look S.heap s = some (g, x) → C0.val s g = some y → B s g
  dead0 : ∀ s g x, C0.val s g = some x → C.live s g = true → C0.live s g = true
  bound0 : ∀ s g u b, C0.val s g = some u → C0.live s g = true → blk u = some b → b < w0.heap.size
end Go.Eng

namespace Go.Eng
variable {P : Program}

def InR (n : Int) : Prop := -9223372036854775808 ≤ n ∧ n ≤ 9223372036854775807

def unwK (c : Bool) (d : D) (k : D → Prop) : Prop :=
  match d with
  | .when c' d => (c = true → c' = true) ∧ k d
  | d => k d

/-- an operand under the assumption c -/
def evK (c : Bool) (S : St) (x : Operand) (k : D → Prop) : Prop :=
  match x with
  | .const v => k (.v v)
  | .func f => k (.v (.func (.func f) #[] #[]))
  | .global _ => False
  | .tmp t =>
    match look S.slots t with
    | some d => unwK c d k
    | none => False

/-- worlds that agree on all that was there -/
def Same (w w' : World) : Prop := w.heap.size ≤ w'.heap.size ∧ ∀ b, b < w.heap.size → w'.heap[b]? = w.heap[b]?
theorem Same.refl (w : World) : Same w w := ⟨Nat.le_refl _, fun _ _ => rfl⟩
theorem Same.alloc (w : World) (o : Obj) : Same w (w.alloc o) := ⟨by simp, fun b hb => RowKit.Below.heap_alloc w o b hb⟩
theorem Same.trans {w w1 w2 : World} (h : Same w w1) (k : Same w1 w2) : Same w w2 := ⟨Nat.le_trans h.1 k.1, fun b hb => (k.2 b (Nat.lt_of_lt_of_le hb h.1)).trans (h.2 b hb)⟩

section
variable {w0 : World} {B : Nat → Nat → Prop} {C0 : Ctx} {n : Nat} {S : St} {C : Ctx} {a : Act} {w : World}

theorem unwK_ok {c : Bool} {d : D} {u : Value} {k : D → Prop} (hr : Rep C w d u) (h : unwK c d k) : ∃ d, k d ∧ (c = true → Rep C w d u) := by
  cases hr with
  | whenT d u hr => exact ⟨d, h.2, fun _ => hr⟩
  | whenF d => exact ⟨d, h.2, fun hc => by have := h.1 hc; cases this⟩
  | v x => exact ⟨_, h, fun _ => .v _⟩
  | agg cs us hn hh => exact ⟨_, h, fun _ => .agg _ _ hn hh⟩
  | tup cs us hn hh => exact ⟨_, h, fun _ => .tup _ _ hn hh⟩
  | own s g u hh h1 => exact ⟨_, h, fun _ => .own _ _ _ hh h1⟩
  | ptr s g off b hh => exact ⟨_, h, fun _ => .ptr _ _ _ _ hh⟩
  | elt s g k i off b n c hh => exact ⟨_, h, fun _ => .elt _ _ _ _ _ _ _ _ hh⟩
  | rd cs b o us hc hh => exact ⟨_, h, fun _ => .rd _ _ _ _ hc hh⟩
  | slE k a cap hm => exact ⟨_, h, fun _ => .slE _ _ _ hm⟩
  | fn f cs us hn hh => exact ⟨_, h, fun _ => .fn _ _ _ hn hh⟩
  | sl k es b o cap us hl hm hk hc hh => exact ⟨_, h, fun _ => .sl _ _ _ _ _ _ hl hm hk hc hh⟩

theorem evK_ok (I : Inv w0 B C0 n S C a w) {c : Bool} {x : Operand} {k : D → Prop} (h : evK c S x k) : ∃ d, k d ∧ (c = true → Rep C w d (a.eval x)) := by
  cases x with
  | const v => exact ⟨_, h, fun _ => .v v⟩
  | func f => exact ⟨_, h, fun _ => .v _⟩
  | global g => exact h.elim
  | tmp t =>
    simp only [evK] at h
    cases hl : look S.slots t with
    | none => rw [hl] at h; exact h.elim
    | some d =>
      obtain ⟨u, hu, hr⟩ := I.slots t d hl
      have he : a.eval (.tmp t) = u := by simp [Act.eval, hu]
      rw [hl] at h
      rw [he]
      exact unwK_ok hr h

def isLoad : Op → Bool
  | .load _ _ => true
  | .lookup _ _ _ _ => true
  | _ => false
/-- what a quiet operation comes to -/
def QOk (P : Program) (C : Ctx) (w : World) (o : Oper) (a : Act) (c : Bool) (k : D → Prop) : Prop :=
  ∃ d, k d ∧ (c = true → ∃ u, Rep C w d u ∧ ∀ w', (isLoad o.op = true → Same w w') → (execOp a.eval o).run P w' = .ok (.value u) w')

theorem Rep.v_inv {x u : Value} (h : Rep C w (.v x) u) : u = x := by cases h; rfl
end

/-! two operands -/
def cmpI (op : BinOp) (a b : Int) : Option Bool :=
  match op with
  | .eql => some (decide (a = b))
  | .neq => some (!decide (a = b))
  | .lss => some (decide (a < b))
  | .leq => some (decide (a ≤ b))
  | .gtr => some (decide (b < a))
  | .geq => some (decide (b ≤ a))
  | _ => none

def arI (op : BinOp) (a b : Int) : Option Int :=
  match op with
  | .add => some (a + b)
  | .sub => some (a - b)
  | .mul => some (a * b)
  | _ => none

/-- shifts and operations on bits -/
def shrI (k : IntKind) (a b : Int) : Int := a.fdiv (2 ^ min b.toNat k.bits)
def shlI (k : IntKind) (a b : Int) : Int := k.wrap (a * 2 ^ min b.toNat k.bits)
def andI (k : IntKind) (a b : Int) : Int := k.wrap (BitVec.ofInt k.bits a &&& BitVec.ofInt k.bits b).toNat
def orI (k : IntKind) (a b : Int) : Int := k.wrap (BitVec.ofInt k.bits a ||| BitVec.ofInt k.bits b).toNat
def xorI (k : IntKind) (a b : Int) : Int := k.wrap (BitVec.ofInt k.bits a ^^^ BitVec.ofInt k.bits b).toNat
def binK (c : Bool) (op : BinOp) (dx dy : D) (k : D → Prop) : Prop :=
  match dx, dy with
  | .v (.int k1 a), .v (.int k2 b) =>
    match op with
    | .shr => (c = true → 0 ≤ b) ∧ k (.v (.int k1 (shrI k1 a b)))
    | .shl => (c = true → 0 ≤ b) ∧ k (.v (.int k1 (shlI k1 a b)))
    | op =>
    k1 = k2 ∧
    match op with
    | .and => k (.v (.int k1 (andI k1 a b)))
    | .or => k (.v (.int k1 (orI k1 a b)))
    | .xor => k (.v (.int k1 (xorI k1 a b)))
    | .quo => (c = true → b ≠ 0) ∧ (if k1 = .i64 then (c = true → InR (a.tdiv b)) ∧ k (.v (.int .i64 (a.tdiv b))) else k (.v (.int k1 (k1.wrap (a.tdiv b)))))
    | .rem => (c = true → b ≠ 0) ∧ k (.v (.int k1 (a.tmod b)))
    | op =>
      match cmpI op a b with
      | some r => k (.v (.bool r))
      | none =>
        match arI op a b with
        | some r => if k1 = .i64 then (c = true → InR r) ∧ k (.v (.int .i64 r)) else k (.v (.int k1 (k1.wrap r)))
        | none => False
  | .v (.bool a), .v (.bool b) =>
    match op with
    | .eql => k (.v (.bool (a == b)))
    | .neq => k (.v (.bool (a != b)))
    | _ => False
  | .v (.string s), .v (.string t) =>
    match op with
    | .add => (c = true → s.size + t.size ≤ 9223372036854775807) ∧ k (.v (.string (s ++ t)))
    | .eql => k (.v (.bool (s.data.toList == t.data.toList)))
    | .neq => k (.v (.bool (!(s.data.toList == t.data.toList))))
    | .lss => k (.v (.bool (Op.bytesLess s.data.toList t.data.toList)))
    | .leq => k (.v (.bool (!Op.bytesLess t.data.toList s.data.toList)))
    | .gtr => k (.v (.bool (Op.bytesLess t.data.toList s.data.toList)))
    | .geq => k (.v (.bool (!Op.bytesLess s.data.toList t.data.toList)))
    | _ => False
  | _, _ => False

theorem bytesLess_total (x y : List UInt8) : (Op.bytesLess x y || x == y) = !Op.bytesLess y x := by
  induction x generalizing y with
  | nil => cases y <;> simp [Op.bytesLess]
  | cons a x ih =>
    cases y with
    | nil => simp [Op.bytesLess]
    | cons b y =>
      have h := ih y
      simp only [Op.bytesLess, List.cons_beq_cons] 
      by_cases h1 : a < b
      · have h2 : ¬ b < a := fun h => by rw [UInt8.lt_iff_toNat_lt] at *; omega
        have h3 : ¬ b = a := fun h => by subst h; exact h2 h1
        simp [h1, h2, h3]
      · by_cases h2 : b < a
        · have h3 : ¬ a = b := fun h => by subst h; exact h1 h2
          simp [h1, h2, h3]
        · have h3 : a = b := by
            apply UInt8.toNat_inj.1
            rw [UInt8.lt_iff_toNat_lt] at *; omega
          subst h3
          simp [h1]
          exact h

theorem inr_wrap {n : Int} (h : InR n) : IntKind.i64.wrap n = n := IntWalk.i64_in n h

theorem bin_int {op : BinOp} {t : TypeId} {x y : Operand} {k1 k2 : IntKind} {a b : Int} {c : Bool} {k : D → Prop} (h : binK c op (.v (.int k1 a)) (.v (.int k2 b)) k) :
    ∃ d, k d ∧ (c = true → ∃ u, d = .v u ∧ ∀ w, (do eqGuard op t x y (.int k1 a) (.int k2 b); binOp op t (.int k1 a) (.int k2 b) : Sem Value).run P w = .ok u w) := by
  cases op <;> simp only [binK, cmpI, arI] at h
  case shr =>
    exact ⟨_, h.2, fun hc => ⟨_, rfl, fun w => by
      have := h.1 hc
      simp [eqGuard, binOp, Op.shift, shrI]
      omega⟩⟩
  case shl =>
    exact ⟨_, h.2, fun hc => ⟨_, rfl, fun w => by
      have := h.1 hc
      simp [eqGuard, binOp, Op.shift, shlI]
      omega⟩⟩
  all_goals obtain ⟨rfl, h2⟩ := h
  case and => exact ⟨_, h2, fun hc => ⟨_, rfl, fun w => by simp [eqGuard, binOp, Op.intBits, andI]⟩⟩
  case or => exact ⟨_, h2, fun hc => ⟨_, rfl, fun w => by simp [eqGuard, binOp, Op.intBits, orI]⟩⟩
  case xor => exact ⟨_, h2, fun hc => ⟨_, rfl, fun w => by simp [eqGuard, binOp, Op.intBits, xorI]⟩⟩
  case add =>
    split at h2
    · rename_i e; subst e; exact ⟨_, h2.2, fun hc => ⟨_, rfl, fun w => by simp [eqGuard_add, binOp_add, Op.intArith, inr_wrap (h2.1 hc)]⟩⟩
    · exact ⟨_, h2, fun hc => ⟨_, rfl, fun w => by simp [eqGuard_add, binOp_add, Op.intArith]⟩⟩
  case sub =>
    split at h2
    · rename_i e; subst e; exact ⟨_, h2.2, fun hc => ⟨_, rfl, fun w => by simp [eqGuard_sub, binOp_sub, Op.intArith, inr_wrap (h2.1 hc)]⟩⟩
    · exact ⟨_, h2, fun hc => ⟨_, rfl, fun w => by simp [eqGuard_sub, binOp_sub, Op.intArith]⟩⟩
  case mul =>
    split at h2
    · rename_i e; subst e; exact ⟨_, h2.2, fun hc => ⟨_, rfl, fun w => by simp [eqGuard_mul, binOp_mul, Op.intArith, inr_wrap (h2.1 hc)]⟩⟩
    · exact ⟨_, h2, fun hc => ⟨_, rfl, fun w => by simp [eqGuard_mul, binOp_mul, Op.intArith]⟩⟩
  case quo =>
    obtain ⟨hb, h2⟩ := h2
    split at h2
    · rename_i e; subst e; exact ⟨_, h2.2, fun hc => ⟨_, rfl, fun w => by simp [eqGuard_quo, binOp_quo, Op.intDiv, hb hc, inr_wrap (h2.1 hc)]⟩⟩
    · exact ⟨_, h2, fun hc => ⟨_, rfl, fun w => by simp [eqGuard_quo, binOp_quo, Op.intDiv, hb hc]⟩⟩
  case rem => exact ⟨_, h2.2, fun hc => ⟨_, rfl, fun w => by simp [eqGuard_rem, binOp_rem, Op.intDiv, h2.1 hc]⟩⟩
  case eql => exact ⟨_, h2, fun hc => ⟨_, rfl, fun w => by simp [eqGuard_at_int, binOp_eql]; rfl⟩⟩
  case neq => exact ⟨_, h2, fun hc => ⟨_, rfl, fun w => by simp [eqGuard_at_int, binOp_neq, bne]; rfl⟩⟩
  case lss => exact ⟨_, h2, fun hc => ⟨_, rfl, fun w => by simp [eqGuard_lss, binOp_lss]⟩⟩
  case leq => exact ⟨_, h2, fun hc => ⟨_, rfl, fun w => by simp [eqGuard_leq, binOp_leq]⟩⟩
  case gtr => exact ⟨_, h2, fun hc => ⟨_, rfl, fun w => by simp [eqGuard_gtr, binOp_gtr]⟩⟩
  case geq => exact ⟨_, h2, fun hc => ⟨_, rfl, fun w => by simp [eqGuard_geq, binOp_geq]⟩⟩
  all_goals exact h2.elim

theorem eqIn_bool {t : TypeId} (ht : P.underlying t = some .bool) (d : Nat) (a b : Bool) (w : World) : (Op.equalIn (d + 1) t (.bool a) (.bool b)).run P w = .ok (a == b) w := by
  simp [Op.equalIn, run_underlying ht]

theorem bin_bool {op : BinOp} {t : TypeId} {x y : Operand} {a b : Bool} {c : Bool} {k : D → Prop} (ht : P.underlying t = some .bool) (h : binK c op (.v (.bool a)) (.v (.bool b)) k) :
    ∃ d, k d ∧ (c = true → ∃ u, d = .v u ∧ ∀ w, (do eqGuard op t x y (.bool a) (.bool b); binOp op t (.bool a) (.bool b) : Sem Value).run P w = .ok u w) := by
  cases op <;> simp only [binK] at h
  case eql => exact ⟨_, h, fun hc => ⟨_, rfl, fun w => by
    simp only [eqGuard_at_bool, binOp, Op.equal, Op.maxDepth]
    simp [eqIn_bool ht 9999]⟩⟩
  case neq => exact ⟨_, h, fun hc => ⟨_, rfl, fun w => by
    simp only [eqGuard_at_bool, binOp, Op.equal, Op.maxDepth]
    simp [eqIn_bool ht 9999, bne]⟩⟩

theorem bin_str {op : BinOp} {t : TypeId} {x y : Operand} {a b : ByteArray} {c : Bool} {k : D → Prop} (h : binK c op (.v (.string a)) (.v (.string b)) k) :
    ∃ d, k d ∧ (c = true → ∃ u, d = .v u ∧ ∀ w, (do eqGuard op t x y (.string a) (.string b); binOp op t (.string a) (.string b) : Sem Value).run P w = .ok u w) := by
  have tl : ∀ s : ByteArray, s.toList = s.data.toList := fun s => ByteArray.toList_eq s
  cases op <;> simp only [binK] at h
  case add => exact ⟨_, h.2, fun hc => ⟨_, rfl, fun w => by
    have := h.1 hc
    simp [eqGuard_at_string, binOp, Op.stringOp]
    omega⟩⟩
  case eql => exact ⟨_, h, fun hc => ⟨_, rfl, fun w => by simp [eqGuard_at_string, binOp, Op.stringOp, tl]⟩⟩
  case neq => exact ⟨_, h, fun hc => ⟨_, rfl, fun w => by simp [eqGuard_at_string, binOp, Op.stringOp, tl]⟩⟩
  case lss => exact ⟨_, h, fun hc => ⟨_, rfl, fun w => by simp [eqGuard_at_string, binOp, Op.stringOp, tl]⟩⟩
  case leq => exact ⟨_, h, fun hc => ⟨_, rfl, fun w => by simp [eqGuard_at_string, binOp, Op.stringOp, tl, ← bytesLess_total]⟩⟩
  case gtr => exact ⟨_, h, fun hc => ⟨_, rfl, fun w => by
    have e := bytesLess_total a.data.toList b.data.toList
    have e2 : Op.bytesLess b.data.toList a.data.toList = !(Op.bytesLess a.data.toList b.data.toList || a.data.toList == b.data.toList) := by rw [e]; simp
    rw [e2]
    simp [eqGuard_at_string, binOp, Op.stringOp, tl]⟩⟩
  case geq => exact ⟨_, h, fun hc => ⟨_, rfl, fun w => by simp [eqGuard_at_string, binOp, Op.stringOp, tl]⟩⟩
end Go.Eng

namespace Go.Eng
variable {P : Program}

/-! closed facts on types -/
def aggT : TypeDesc → Bool
  | .struct _ | .array _ _ => true
  | _ => false
def tyOf (P : Program) (t : TypeId) : Option (Bool × Nat) :=
  match P.underlying t, P.info? t with
  | some d, some i => some (aggT d, i.size)
  | _, _ => none
def fldOf (P : Program) (t : TypeId) (i : Nat) : Option (Nat × Bool × Nat) :=
  match P.underlying t with
  | some (.struct fs) =>
    match fs[i]? with
    | some f => match tyOf P f.type with
      | some (a, s) => some (f.offset, a, s)
      | none => none
    | none => none
  | _ => none
def slOf (P : Program) (t : TypeId) : Option (TypeId × Nat × Nat) :=
  match P.underlying t with
  | some (.slice e) => match P.info? e with
    | some i => some (e, i.size, i.bytes)
    | none => none
  | _ => none
def zeroOf (P : Program) (t : TypeId) : Option (List Value) :=
  match P.info? t with
  | some i => match i.zero with
    | some z => if z.cells.size = i.size then some z.cells.toList else none
    | none => none
  | none => none

theorem tyOf_spec {t : TypeId} {a : Bool} {s : Nat} (h : tyOf P t = some (a, s)) : ∃ d i, P.underlying t = some d ∧ P.info? t = some i ∧ aggT d = a ∧ i.size = s := by
  unfold tyOf at h
  split at h
  · rename_i d i h1 h2
    simp only [Option.some.injEq, Prod.mk.injEq] at h
    exact ⟨d, i, h1, h2, h.1, h.2⟩
  · cases h
theorem fldOf_spec {t : TypeId} {i o s : Nat} {a : Bool} (h : fldOf P t i = some (o, a, s)) : ∃ fs f, P.underlying t = some (.struct fs) ∧ fs[i]? = some f ∧ f.offset = o ∧ tyOf P f.type = some (a, s) := by
  unfold fldOf at h
  split at h
  · rename_i fs h1
    split at h
    · rename_i f h2
      split at h
      · rename_i a' s' h3
        simp only [Option.some.injEq, Prod.mk.injEq] at h
        obtain ⟨rfl, rfl, rfl⟩ := h
        exact ⟨fs, f, h1, h2, rfl, h3⟩
      · cases h
    · cases h
  · cases h
theorem slOf_spec {t e : TypeId} {s b : Nat} (h : slOf P t = some (e, s, b)) : ∃ i, P.underlying t = some (.slice e) ∧ P.info? e = some i ∧ i.size = s ∧ i.bytes = b := by
  unfold slOf at h
  split at h
  · rename_i e' h1
    split at h
    · rename_i i h2
      simp only [Option.some.injEq, Prod.mk.injEq] at h
      obtain ⟨rfl, rfl, rfl⟩ := h
      exact ⟨i, h1, h2, rfl, rfl⟩
    · cases h
  · cases h

def arrOf (P : Program) (t : TypeId) : Option (Nat × Nat) :=
  match P.underlying t with
  | some (.array n e) => match P.info? e with
    | some i => some (n, i.size)
    | none => none
  | _ => none
theorem arrOf_spec {t : TypeId} {m s : Nat} (h : arrOf P t = some (m, s)) : ∃ e i, P.underlying t = some (.array m e) ∧ P.info? e = some i ∧ i.size = s := by
  unfold arrOf at h
  split at h
  · rename_i n e h1
    split at h
    · rename_i i h2
      simp only [Option.some.injEq, Prod.mk.injEq] at h
      obtain ⟨rfl, rfl⟩ := h
      exact ⟨e, i, h1, h2, rfl⟩
    · cases h
  · cases h

theorem run_isAgg {t : TypeId} {a : Bool} {s : Nat} (h : tyOf P t = some (a, s)) (w : World) : (isAgg t).run P w = .ok a w := by
  obtain ⟨d, i, h1, _, h3, _⟩ := tyOf_spec h
  unfold isAgg
  simp only [Sem.run_bind, run_underlying h1, Result.andThen_ok]
  subst h3
  cases d <;> simp [aggT]
theorem run_sizeOf {t : TypeId} {a : Bool} {s : Nat} (h : tyOf P t = some (a, s)) (w : World) : (sizeOf t).run P w = .ok s w := by
  obtain ⟨d, i, _, h2, _, h4⟩ := tyOf_spec h
  simp [sizeOf, typeInfo, h2, h4]
theorem run_sizeOf' {e : TypeId} {i : TypeInfo} (h : P.info? e = some i) (w : World) : (sizeOf e).run P w = .ok i.size w := by
  simp [sizeOf, typeInfo, h]

/-- a variable out of cells that are known -/
theorem run_loadVar_cells {t : TypeId} {agg : Bool} {sz : Nat} (ht : tyOf P t = some (agg, sz)) (w : World) (b o : Nat) (us : Nat → Value) (hc : ∀ j, j < sz → w.cell? ⟨b, o + j, none⟩ = some (us j)) (h1 : agg = false → 0 < sz) :
    (loadVar t ⟨b, o, none⟩).run P w = .ok (if agg then .agg ((List.range sz).map us).toArray else us 0) w := by
  unfold loadVar
  simp only [Sem.run_bind, run_isAgg ht, Result.andThen_ok]
  cases agg with
  | true =>
    simp only [if_true, Sem.run_bind, run_sizeOf ht, Result.andThen_ok]
    have hl := run_loadCells (P := P) w ⟨b, o, none⟩ sz us (fun j hj => by rw [Addr.add_lit]; exact hc j hj)
    rw [hl]
    simp
  | false =>
    have := hc 0 (h1 rfl)
    rw [Nat.add_zero] at this
    simp [run_load, this]

section
variable {w0 : World} {B : Nat → Nat → Prop} {C0 : Ctx} {n : Nat} {S : St} {C : Ctx} {a : Act} {w : World}

theorem Same.cell {w w' : World} (h : Same w w') {p : Addr} {v : Value} (hc : w.cell? p = some v) : w'.cell? p = some v :=
  (World.cell?_of_block (h.2 p.block (cell_lt hc))).trans hc

/-- what a load of cells that begin with 'cs' gives -/
def takeK (agg : Bool) (sz : Nat) (cs : List D) (k : D → Prop) : Prop :=
  if agg then sz ≤ cs.length ∧ k (.agg (cs.take sz))
  else match cs with
    | d :: _ => 0 < sz ∧ sz ≤ 1 ∧ k d
    | [] => False

def cellsAt (S : St) (d : D) : Option (List D) :=
  match d with
  | .rd cs => some cs
  | .ptr s g off =>
    match look S.heap s with
    | some (g', .box cs) => if g' = g then some (cs.drop off) else none
    | _ => none
  | .elt s g k i off =>
    match look S.heap s with
    | some (g', .row _ k' es) => if g' = g ∧ k' = k then match es[i]? with
      | some cs => some (cs.drop off)
      | none => none
      else none
    | _ => none
  | _ => none

/-- cells that lie behind a pointer -/
theorem cellsAt_ok (I : Inv w0 B C0 n S C a w) {d : D} {cs : List D} {u : Value} (h : cellsAt S d = some cs) (hr : Rep C w d u) :
    ∃ (b o : Nat) (us : Nat → Value), u = .pointer (some ⟨b, o, none⟩) ∧ ∀ (j : Nat) c, cs[j]? = some c → w.cell? ⟨b, o + j, none⟩ = some (us j) ∧ Rep C w c (us j) := by
  cases d with
  | rd cs' =>
    simp only [cellsAt, Option.some.injEq] at h
    subst h
    cases hr with
    | rd _ b o us hc hh => exact ⟨b, o, us, rfl, fun j c hj => ⟨(hc j c hj).2, hh j c hj⟩⟩
  | ptr s g off =>
    cases hr with
    | ptr _ _ _ b hv =>
      simp only [cellsAt] at h
      split at h
      · rename_i g' cs' hl
        split at h
        · rename_i hg
          subst hg
          simp only [Option.some.injEq] at h
          subst h
          obtain ⟨b', arr, ty, hv', _, hb, hn, hall⟩ := I.heap s g' _ hl
          rw [hv] at hv'
          simp only [Option.some.injEq, Value.pointer.injEq, Addr.mk.injEq, and_true] at hv'
          subst hv'
          refine ⟨b, off, fun j => arr.getD (off + j) undef, rfl, fun j c hj => ?_⟩
          rw [List.getElem?_drop] at hj
          have hlt : off + j < arr.size := by rw [hn]; exact (List.getElem?_eq_some_iff.1 hj).1
          have hu : arr[off + j]? = some (arr[off + j]) := Array.getElem?_eq_getElem hlt
          rw [cell_of_row w b (off + j) arr ty (0, 0) hb, hu]
          have : arr.getD (off + j) undef = arr[off + j] := by simp [Array.getD, hlt]
          dsimp only
          rw [this]
          exact ⟨rfl, (hall _ _ _ hj hu).1⟩
        · cases h
      · cases h
  | elt s g k i off =>
    cases hr with
    | elt _ _ _ _ _ b m c hv =>
      simp only [cellsAt] at h
      split at h
      · rename_i g' e' k' es hl
        split at h
        · rename_i hg
          obtain ⟨rfl, rfl⟩ := hg
          split at h
          · rename_i cs' hi
            simp only [Option.some.injEq] at h
            subst h
            obtain ⟨u, xs, hv', _, hown, hk, hall⟩ := I.heap s g' _ hl
            rw [hv] at hv'
            simp only [Option.some.injEq] at hv'
            subst hv'
            refine ⟨b, i * k' + off, fun j => xs.getD (i * k' + (off + j)) undef, rfl, fun j c hj => ?_⟩
            rw [List.getElem?_drop] at hj
            have hlen : cs'.length = k' := hk _ (List.mem_of_getElem? hi)
            have h1 : off + j < k' := by rw [← hlen]; exact (List.getElem?_eq_some_iff.1 hj).1
            have h2 : i < es.length := (List.getElem?_eq_some_iff.1 hi).1
            have h3 : i * k' + (off + j) < xs.length := by
              rw [hown.1]
              calc i * k' + (off + j) < i * k' + k' := by omega
                _ = (i + 1) * k' := by rw [Nat.add_mul]; omega
                _ ≤ es.length * k' := Nat.mul_le_mul_right _ h2
            have hx : xs[i * k' + (off + j)]? = some (xs[i * k' + (off + j)]) := List.getElem?_eq_getElem h3
            have hcell := hown.cells (g := b) rfl _ _ hx
            rw [Addr.add_lit, Nat.zero_add] at hcell
            have : xs.getD (i * k' + (off + j)) undef = xs[i * k' + (off + j)] := by simp [List.getD, hx]
            dsimp only
            rw [this, show i * k' + off + j = i * k' + (off + j) from by omega]
            exact ⟨hcell, (hall i (off + j) cs' c _ hi hj hx).1⟩
          · cases h
        · cases h
      · cases h
  | _ => simp [cellsAt] at h

theorem load_ok (I : Inv w0 B C0 n S C a w) {t : TypeId} {agg : Bool} {sz : Nat} (ht : tyOf P t = some (agg, sz)) {d : D} {cs : List D} {u : Value} {k : D → Prop}
    (h : cellsAt S d = some cs) (hk : takeK agg sz cs k) : ∃ d', k d' ∧ (Rep C w d u → ∃ u', Rep C w d' u' ∧ ∀ w', Same w w' → (Instr.loadAt t u).run P w' = .ok u' w') := by
  unfold takeK at hk
  cases agg with
  | true =>
    simp only [if_true] at hk
    obtain ⟨hsz, hk⟩ := hk
    refine ⟨_, hk, fun hr => ?_⟩
    obtain ⟨b, o, us, rfl, hall⟩ := cellsAt_ok I h hr
    refine ⟨.agg ((List.range sz).map us).toArray, .agg _ _ (by simp; omega) (fun j c u hj hu => ?_), fun w' hs => ?_⟩
    · have hj' : j < sz := by
        have := (List.getElem?_eq_some_iff.1 hj).1
        simp at this; omega
      rw [List.getElem?_take, if_pos hj'] at hj
      simp [hj'] at hu
      rw [← hu]
      exact (hall j c hj).2
    · simp only [Instr.loadAt, Instr.sureAddr, Sem.run_bind, Sem.run_pure, Result.andThen_ok]
      rw [run_loadVar_cells ht w' b o us (fun j hj => hs.cell (hall j _ (List.getElem?_eq_getElem (by omega))).1) (by simp)]
      simp
  | false =>
    simp only [Bool.false_eq_true, if_false] at hk
    split at hk
    · rename_i d' rest
      refine ⟨_, hk.2.2, fun hr => ?_⟩
      obtain ⟨b, o, us, rfl, hall⟩ := cellsAt_ok I h hr
      have h0 := hall 0 d' rfl
      refine ⟨_, h0.2, fun w' hs => ?_⟩
      simp only [Instr.loadAt, Instr.sureAddr, Sem.run_bind, Sem.run_pure, Result.andThen_ok]
      have hz : sz = 1 := by have := hk.1; have := hk.2.1; omega
      subst hz
      rw [run_loadVar_cells ht w' b o us (fun j hj => by obtain rfl : j = 0 := by omega
                                                         exact hs.cell h0.1) (by simp)]
      simp
    · exact hk.elim
end
end Go.Eng

namespace Go.Eng
variable {P : Program}

/-! the values of the quiet operations -/
def fieldAddrK (o : Nat) (d : D) (k : D → Prop) : Prop :=
  match d with
  | .rd cs => k (.rd (cs.drop o))
  | .ptr s g off => k (.ptr s g (off + o))
  | .elt s g k' i off => k (.elt s g k' i (off + o))
  | .v (.pointer (some ad)) => ad.spot = none ∧ k (.v (.pointer (some ⟨ad.block, ad.off + o, none⟩)))
  | _ => False

def rowOf (S : St) (s g : Nat) : Option (Nat × Nat × List (List D)) :=
  match look S.heap s with
  | some (g', .row e k es) => if g' = g then some (e, k, es) else none
  | _ => none
def frozOf (S : St) (s g : Nat) : Option (Nat × List (List D)) :=
  match look S.heap s with
  | some (g', .froz k es) => if g' = g then some (k, es) else none
  | _ => none

def idxK (c : Bool) (S : St) (sz : Nat) (d : D) (i : Int) (k : D → Prop) : Prop :=
  match d with
  | .sl k' es => k' = sz ∧ match es[i.toNat]? with
    | some e => (c = true → 0 ≤ i) ∧ k (.rd e)
    | none => False
  | .own s g =>
    match rowOf S s g with
    | some (_, k', es) => k' = sz ∧ (c = true → 0 ≤ i ∧ i.toNat < es.length) ∧ k (.elt s g k' i.toNat 0)
    | none =>
      match frozOf S s g with
      | some (k', es) => k' = sz ∧ match es[i.toNat]? with
        | some e => (c = true → 0 ≤ i) ∧ k (.rd e)
        | none => False
      | none => False
  | _ => False

def lenK (S : St) (d : D) (k : D → Prop) : Prop :=
  match d with
  | .v (.string s) => k (.v (.int .i64 s.size))
  | .v (.slice none 0 0) => k (.v (.int .i64 0))
  | .sl _ es => k (.v (.int .i64 es.length))
  | .own s g =>
    match rowOf S s g with
    | some (_, _, es) => k (.v (.int .i64 es.length))
    | none =>
      match frozOf S s g with
      | some (_, es) => k (.v (.int .i64 es.length))
      | none => False
  | _ => False

section
variable {w0 : World} {B : Nat → Nat → Prop} {C0 : Ctx} {n : Nat} {S : St} {C : Ctx} {a : Act} {w : World}

theorem fieldAddr_ok {t : TypeId} {i o s : Nat} {agg : Bool} (hf : fldOf P t i = some (o, agg, s)) (hs : s ≠ 0) {d : D} {u : Value} {k : D → Prop} (h : fieldAddrK o d k) :
    ∃ d', k d' ∧ (Rep C w d u → ∃ u', Rep C w d' u' ∧ ∀ w', (Instr.fieldAt t u i).run P w' = .ok u' w') := by
  obtain ⟨fs, f, h1, h2, rfl, h4⟩ := fldOf_spec hf
  have run : ∀ b o', ∀ w', (Instr.fieldAt t (.pointer (some ⟨b, o', none⟩)) i).run P w' = .ok (.pointer (some ⟨b, o' + f.offset, none⟩)) w' := fun b o' w' => by
    simp [Instr.fieldAt, run_underlying h1, h2, Instr.sureAddr, fieldPlace, run_sizeOf h4, hs, Addr.add_lit]
  cases d with
  | rd cs =>
    refine ⟨_, h, fun hr => ?_⟩
    cases hr with
    | rd _ b o us hc hh =>
      refine ⟨_, .rd _ b (o + f.offset) (fun j => us (f.offset + j)) (fun j c hj => ?_) (fun j c hj => ?_), run b o⟩
      · rw [List.getElem?_drop] at hj
        rw [Nat.add_assoc]
        exact hc _ _ hj
      · rw [List.getElem?_drop] at hj
        exact hh _ _ hj
  | ptr s g off =>
    refine ⟨_, h, fun hr => ?_⟩
    cases hr with
    | ptr _ _ _ b hv => exact ⟨_, .ptr _ _ _ b hv, run b off⟩
  | elt s g k' i' off =>
    refine ⟨_, h, fun hr => ?_⟩
    cases hr with
    | elt _ _ _ _ _ b n c hv =>
      refine ⟨_, .elt _ _ _ _ _ b n c hv, fun w' => ?_⟩
      rw [run]
      simp [Nat.add_assoc]
  | v x =>
    cases x with
    | pointer q =>
      cases q with
      | none => exact h.elim
      | some ad =>
        obtain ⟨hsp, h⟩ := h
        refine ⟨_, h, fun hr => ?_⟩
        obtain rfl := hr.v_inv
        obtain ⟨b, o', sp⟩ := ad
        simp only at hsp
        subst hsp
        exact ⟨_, .v _, run b o'⟩
    | _ => exact h.elim
  | _ => exact h.elim

/-- the address of an element of an array -/
theorem arrAddr_ok {t : TypeId} {m sz : Nat} {ik : IntKind} {i : Int} (ha : arrOf P t = some (m, sz)) {d : D} {u : Value} {k : D → Prop} (h : fieldAddrK (i.toNat * sz) d k) :
    ∃ d', k d' ∧ (0 ≤ i ∧ i.toNat < m → Rep C w d u → ∃ u', Rep C w d' u' ∧ ∀ w', (Instr.indexAt t u (.int ik i)).run P w' = .ok u' w') := by
  obtain ⟨e, ie, h1, h2, h3⟩ := arrOf_spec ha
  have run : (0 ≤ i ∧ i.toNat < m) → ∀ b o', ∀ w', (Instr.indexAt t (.pointer (some ⟨b, o', none⟩)) (.int ik i)).run P w' = .ok (.pointer (some ⟨b, o' + i.toNat * sz, none⟩)) w' := fun hi b o' w' => by
    have hlt' : 0 ≤ i ∧ i < (m : Int) := ⟨hi.1, by omega⟩
    simp [Instr.indexAt, run_underlying h1, asIntOf, hlt', run_sizeOf' h2, h3, Instr.sureAddr, Addr.add_lit]
  cases d with
  | rd cs =>
    refine ⟨_, h, fun hi hr => ?_⟩
    cases hr with
    | rd _ b o us hc hh =>
      refine ⟨_, .rd _ b (o + i.toNat * sz) (fun j => us (i.toNat * sz + j)) (fun j c hj => ?_) (fun j c hj => ?_), run hi b o⟩
      · rw [List.getElem?_drop] at hj
        rw [Nat.add_assoc]
        exact hc _ _ hj
      · rw [List.getElem?_drop] at hj
        exact hh _ _ hj
  | ptr s g off =>
    refine ⟨_, h, fun hi hr => ?_⟩
    cases hr with
    | ptr _ _ _ b hv => exact ⟨_, .ptr _ _ _ b hv, run hi b off⟩
  | elt s g k' i' off =>
    refine ⟨_, h, fun hi hr => ?_⟩
    cases hr with
    | elt _ _ _ _ _ b n c hv =>
      refine ⟨_, .elt _ _ _ _ _ b n c hv, fun w' => ?_⟩
      rw [run hi]
      simp [Nat.add_assoc]
  | v x =>
    cases x with
    | pointer q =>
      cases q with
      | none => exact h.elim
      | some ad =>
        obtain ⟨hsp, h⟩ := h
        refine ⟨_, h, fun hi hr => ?_⟩
        obtain rfl := hr.v_inv
        obtain ⟨b, o', sp⟩ := ad
        simp only at hsp
        subst hsp
        exact ⟨_, .v _, run hi b o'⟩
    | _ => exact h.elim
  | _ => exact h.elim

theorem ownsRow_val {w : World} {e k : Nat} {u : Value} {m : Nat} {xs : List Value} (h : w.ownsRow 0 e k u m xs) (hm : 0 < m) :
    ∃ b cap, u = .slice (some ⟨b, 0, none⟩) m cap := by
  rcases h.2 with ⟨_, h0⟩ | ⟨g, cap, cur, hv, _⟩
  · omega
  · exact ⟨g, cap, hv⟩

theorem ownsRow_slice {w : World} {e k : Nat} {u : Value} {m : Nat} {xs : List Value} (h : w.ownsRow 0 e k u m xs) :
    ∃ ao cap, u = .slice ao m cap ∧ m ≤ cap ∧ cap ≤ maxLen := by
  rcases h.2 with ⟨rfl, rfl⟩ | ⟨g, cap, cur, hv, _, _, h1, h2, _⟩
  · exact ⟨none, 0, rfl, Nat.le_refl _, by simp⟩
  · exact ⟨_, cap, hv, h1, h2⟩

theorem rowOf_spec {s g e k : Nat} {es : List (List D)} (h : rowOf S s g = some (e, k, es)) : look S.heap s = some (g, .row e k es) := by
  unfold rowOf at h
  split at h
  · rename_i g' e' k' es' hl
    split at h
    · rename_i hg
      subst hg
      simp only [Option.some.injEq, Prod.mk.injEq] at h
      obtain ⟨rfl, rfl, rfl⟩ := h
      exact hl
    · cases h
  · cases h
theorem frozOf_spec {s g k : Nat} {es : List (List D)} (h : frozOf S s g = some (k, es)) : look S.heap s = some (g, .froz k es) := by
  unfold frozOf at h
  split at h
  · rename_i g' k' es' hl
    split at h
    · rename_i hg
      subst hg
      simp only [Option.some.injEq, Prod.mk.injEq] at h
      obtain ⟨rfl, rfl⟩ := h
      exact hl
    · cases h
  · cases h

theorem idx_sl {t e : TypeId} {sz by' : Nat} (ht : slOf P t = some (e, sz, by')) {ik : IntKind} {i : Int} {k' : Nat} {es : List (List D)} {el : List D} (hk' : k' = sz) (hi0 : 0 ≤ i) (hi : es[i.toNat]? = some el) {u : Value} (hr : Rep C w (.sl k' es) u) :
    ∃ u', Rep C w (.rd el) u' ∧ ∀ w', (Instr.indexAt t u (.int ik i)).run P w' = .ok u' w' := by
  obtain ⟨inf, h1, h2, h3, _⟩ := slOf_spec ht
  subst hk'
  have hlt := (List.getElem?_eq_some_iff.1 hi).1
  cases hr with
  | slE => simp at hi
  | sl _ _ b o cap us hl hm hk hc hh =>
    refine ⟨_, .rd _ b (o + i.toNat * k') (fun j => us i.toNat j) (fun j c hj => ?_) (fun j c hj => hh _ _ _ _ hi hj), fun w' => ?_⟩
    · rw [Nat.add_assoc]; exact hc _ _ _ _ hi hj
    · have hlt' : 0 ≤ i ∧ i < (es.length : Int) := ⟨hi0, by omega⟩
      simp [Instr.indexAt, run_underlying h1, asIntOf, hlt', run_sizeOf' h2, h3, Addr.add_lit]

theorem idx_ok (I : Inv w0 B C0 n S C a w) {t e : TypeId} {sz by' : Nat} (ht : slOf P t = some (e, sz, by')) {c : Bool} {d : D} {ik : IntKind} {i : Int} {u : Value} {k : D → Prop}
    (h : idxK c S sz d i k) : ∃ d', k d' ∧ (c = true → Rep C w d u → ∃ u', Rep C w d' u' ∧ ∀ w', (Instr.indexAt t u (.int ik i)).run P w' = .ok u' w') := by
  cases d with
  | sl k' es =>
    obtain ⟨hk, h⟩ := h
    cases hi : es[i.toNat]? with
    | none => rw [hi] at h; exact h.elim
    | some el =>
      rw [hi] at h
      exact ⟨_, h.2, fun hc hr => idx_sl ht hk (h.1 hc) hi hr⟩
  | own s g =>
    simp only [idxK] at h
    split at h
    · rename_i e' k' es hro
      refine ⟨_, h.2.2, fun hc hr => ?_⟩
      obtain ⟨hk, h', _⟩ := h
      obtain ⟨h0, hlt⟩ := h' hc
      subst hk
      obtain ⟨inf, h1, h2, h3, _⟩ := slOf_spec ht
      obtain ⟨u', xs, hv, _, hown, _, _⟩ := I.heap s g _ (rowOf_spec hro)
      cases hr with
      | own _ _ _ hv' _ =>
        rw [hv] at hv'
        simp only [Option.some.injEq] at hv'
        subst hv'
        obtain ⟨b, cap, rfl⟩ := ownsRow_val hown (by omega)
        refine ⟨_, .elt s g k' i.toNat 0 b _ _ hv, fun w' => ?_⟩
        have hlt' : 0 ≤ i ∧ i < (es.length : Int) := ⟨h0, by omega⟩
        simp [Instr.indexAt, run_underlying h1, asIntOf, hlt', run_sizeOf' h2, h3, Addr.add_lit]
    · split at h
      · rename_i k' es hfr
        obtain ⟨hk, h⟩ := h
        cases hi : es[i.toNat]? with
        | none => rw [hi] at h; exact h.elim
        | some el =>
          rw [hi] at h
          refine ⟨_, h.2, fun hc hr => ?_⟩
          obtain ⟨u', hv, hrep⟩ := I.heap s g _ (frozOf_spec hfr)
          cases hr with
          | own _ _ _ hv' _ =>
            rw [hv] at hv'
            simp only [Option.some.injEq] at hv'
            subst hv'
            exact idx_sl ht hk (h.1 hc) hi hrep
      · exact h.elim
  | _ => exact h.elim

theorem len_sl {k : Nat} {es : List (List D)} {u : Value} (hr : Rep C w (.sl k es) u) : ∃ ao cap, u = .slice ao es.length cap ∧ es.length ≤ cap ∧ cap ≤ maxLen := by
  cases hr with
  | slE _ a cap hm => exact ⟨_, _, rfl, Nat.zero_le _, hm⟩
  | sl _ _ b o cap us hl hm hk hc hh => exact ⟨_, _, rfl, hl, hm⟩

theorem len_ok (I : Inv w0 B C0 n S C a w) {t ty : TypeId} {d : D} {u : Value} {k : D → Prop}
    (h : lenK S d k) (hty : ∀ s, d = .v (.string s) → P.underlying t = some .string) (hty' : (∀ s, d ≠ .v (.string s)) → ∃ e, P.underlying t = some (.slice e)) :
    ∃ d', k d' ∧ (Rep C w d u → ∃ u', Rep C w d' u' ∧ ∀ w', (Builtin.len_ #[t] ty #[u]).run P w' = .ok u' w') := by
  have slrun : ∀ ao m cap e, P.underlying t = some (.slice e) → ∀ w', (Builtin.len_ #[t] ty #[.slice ao m cap]).run P w' = .ok (.int .i64 m) w' := fun ao m cap e he w' => by
    simp [Builtin.len_, run_underlying he, goInt]
  cases d with
  | v x =>
    cases x with
    | string s =>
      refine ⟨_, h, fun hr => ?_⟩
      obtain rfl := hr.v_inv
      exact ⟨_, .v _, fun w' => by simp [Builtin.len_, run_underlying (hty s rfl), goInt]⟩
    | slice ao m cap =>
      unfold lenK at h
      split at h <;> try (rename_i heq; cases heq)
      · refine ⟨_, h, fun hr => ?_⟩
        obtain rfl := hr.v_inv
        obtain ⟨e, he⟩ := hty' (by simp)
        exact ⟨_, .v _, slrun _ _ _ e he⟩
      · exact h.elim
    | _ => exact h.elim
  | sl k' es =>
    refine ⟨_, h, fun hr => ?_⟩
    obtain ⟨ao, cap, rfl, _, _⟩ := len_sl hr
    obtain ⟨e, he⟩ := hty' (by simp)
    exact ⟨_, .v _, slrun _ _ _ e he⟩
  | own s g =>
    obtain ⟨e, he⟩ := hty' (by simp)
    simp only [lenK] at h
    split at h
    · rename_i e' k' es hro
      refine ⟨_, h, fun hr => ?_⟩
      obtain ⟨u', xs, hv, _, hown, _, _⟩ := I.heap s g _ (rowOf_spec hro)
      cases hr with
      | own _ _ _ hv' _ =>
        rw [hv] at hv'
        simp only [Option.some.injEq] at hv'
        subst hv'
        obtain ⟨ao, cap, rfl, _⟩ := ownsRow_slice hown
        exact ⟨_, .v _, slrun _ _ _ e he⟩
    · split at h
      · rename_i k' es hfr
        refine ⟨_, h, fun hr => ?_⟩
        obtain ⟨u', hv, hrep⟩ := I.heap s g _ (frozOf_spec hfr)
        cases hr with
        | own _ _ _ hv' _ =>
          rw [hv] at hv'
          simp only [Option.some.injEq] at hv'
          subst hv'
          obtain ⟨ao, cap, rfl, _⟩ := len_sl hrep
          exact ⟨_, .v _, slrun _ _ _ e he⟩
      · exact h.elim
  | _ => exact h.elim
end
end Go.Eng

namespace Go.Eng
variable {P : Program}

def cellsOfD : D → List D
  | .agg cs => cs
  | d => [d]
def cellOk : D → Bool
  | .v x => x.oneCell'
  | .agg _ => true
  | .sl _ _ | .own _ _ | .ptr _ _ _ | .elt _ _ _ _ _ | .rd _ | .fn _ _ => true
  | _ => false
def oneD : D → Bool
  | .v x => x.oneCell'
  | .sl _ _ | .own _ _ | .ptr _ _ _ | .elt _ _ _ _ _ | .rd _ | .fn _ _ => true
  | _ => false

def putAt (cells : List D) (off : Nat) (new : List D) : List D := cells.take off ++ (new ++ cells.drop (off + new.length))
def fillD (place : List (Nat × Nat)) (cells : List D) : List (Nat × D) → Option (List D)
  | [] => some cells
  | (i, d) :: rest =>
    match place[i]? with
    | none => none
    | some (off, size) => if (cellsOfD d).length = size ∧ off + size ≤ cells.length ∧ cellOk d = true then fillD place (putAt cells off (cellsOfD d)) rest else none

def bldOf (P : Program) (t : TypeId) : Option (List (Nat × Nat) × List Value) :=
  match P.info? t, P.underlying t with
  | some it, some (.struct fields) =>
    match it.zero, fields.toList.mapM (fun f => (P.info? f.type).map fun i => (f.offset, i.size)) with
    | some z, some places => some (places, z.cells.toList)
    | _, _ => none
  | some it, some (.array n e) =>
    match it.zero, P.info? e with
    | some z, some ie => some ((List.range n).map fun i => (i * ie.size, ie.size), z.cells.toList)
    | _, _ => none
  | _, _ => none
theorem fill_mono {p q : Nat → Option (Nat × Nat)} (hpq : ∀ i x, p i = some x → q i = some x) : ∀ (parts : List (Nat × Value)) (cells r : Array Value), Instr.fill p cells parts = some r → Instr.fill q cells parts = some r
  | [], cells, r, h => by simpa [Instr.fill] using h
  | (i, v) :: rest, cells, r, h => by
    unfold Instr.fill at h ⊢
    cases hp : p i with
    | none => rw [hp] at h; simp at h
    | some x =>
      rw [hp] at h
      rw [hpq i x hp]
      obtain ⟨o, sz⟩ := x
      simp only at h ⊢
      split at h
      · cases h
      · rename_i hc
        rw [if_neg hc]
        exact fill_mono hpq rest _ r h

theorem bldOf_spec {t : TypeId} {places : List (Nat × Nat)} {zs : List Value} (h : bldOf P t = some (places, zs)) (parts : List (Nat × Value)) {r : Array Value} (hr : Instr.fill (places[·]?) zs.toArray parts = some r) :
    P.built t parts = some r := by
  unfold bldOf at h
  unfold Program.built
  split at h
  · rename_i it fields h1 h2
    rw [h1, h2]
    simp only
    split at h
    · rename_i z pl h3 h4
      simp only [Option.some.injEq, Prod.mk.injEq] at h
      obtain ⟨rfl, rfl⟩ := h
      rw [h3, h4]
      simpa using hr
    · cases h
  · rename_i it n e h1 h2
    rw [h1, h2]
    simp only
    split at h
    · rename_i z ie h3 h4
      simp only [Option.some.injEq, Prod.mk.injEq] at h
      obtain ⟨rfl, rfl⟩ := h
      rw [h3, h4]
      refine fill_mono (fun i x hx => ?_) parts _ _ (by simpa using hr)
      replace hx : Option.map (fun i => (i * ie.size, ie.size)) (List.range n)[i]? = some x := by
        first | exact hx | (rw [← List.getElem?_map]; exact hx)
      cases hi : (List.range n)[i]? with
      | none => rw [hi] at hx; cases hx
      | some j =>
        rw [hi] at hx
        have : j = i := by
          have := List.getElem?_eq_some_iff.1 hi
          obtain ⟨_, h⟩ := this
          simpa using h.symm
        subst this
        simpa using hx
    · cases h
  · cases h

section
variable {w0 : World} {B : Nat → Nat → Prop} {C0 : Ctx} {n : Nat} {S : St} {C : Ctx} {a : Act} {w : World}

/-- cells that read as a list of abstract cells -/
def Cells (C : Ctx) (w : World) (cs : List D) (us : List Value) : Prop := us.length = cs.length ∧ ∀ (j : Nat) c u, cs[j]? = some c → us[j]? = some u → Rep C w c u

theorem cells_one {x : Value} (h : x.oneCell' = true) : x.cells = #[x] := by cases x <;> simp_all [Value.cells, Value.oneCell']

theorem Rep.oneV {d : D} {u : Value} (ho : oneD d = true) (hr : Rep C w d u) : u.oneCell' = true := by
  cases hr <;> first | rfl | assumption | (simp [oneD] at ho; done) | (simpa [oneD] using ho)

theorem oneD_cells {d : D} (ho : oneD d = true) : cellsOfD d = [d] := by cases d <;> first | rfl | (simp [oneD] at ho)

theorem Cells.of_rep {d : D} {u : Value} (ho : cellOk d = true) (hr : Rep C w d u) : Cells C w (cellsOfD d) u.cells.toList := by
  by_cases h1 : oneD d = true
  · rw [cells_one (hr.oneV h1), oneD_cells h1]
    refine ⟨rfl, fun j c u' hj hu => ?_⟩
    match j, hj, hu with
    | 0, hj, hu => simp at hj hu; subst hj; subst hu; exact hr
    | j + 1, hj, _ => simp at hj
  · cases hr with
    | agg cs us hn h =>
      refine ⟨by simp [Value.cells, cellsOfD, hn], fun j c u hj hu => ?_⟩
      simp only [cellsOfD, Value.cells] at hj hu
      exact h j c u hj (by simpa using hu)
    | v x => simp [cellOk] at ho; simp [oneD, ho] at h1
    | tup | whenT | whenF => simp [cellOk] at ho
    | own | ptr | elt | rd | slE | sl | fn => simp [oneD] at h1

theorem Cells.vals (zs : List Value) : Cells C w (zs.map .v) zs := by
  refine ⟨by simp, fun j c u hj hu => ?_⟩
  rw [List.getElem?_map, hu] at hj
  simp at hj
  subst hj
  exact .v _

theorem fold_setL (vs : List Value) : ∀ (o : Nat) (arr : Array Value) (i : Nat), o + i + vs.length ≤ arr.size →
    ((vs.zipIdx i).foldl (fun cs (x : Value × Nat) => cs.setIfInBounds (o + x.2) x.1) arr).toList = arr.toList.take (o + i) ++ (vs ++ arr.toList.drop (o + i + vs.length)) := by
  induction vs with
  | nil => intro o arr i h; simp
  | cons x vs ih =>
    intro o arr i h
    simp only [List.length_cons] at h
    have := ih o (arr.setIfInBounds (o + i) x) (i + 1) (by simp; omega)
    simp only [List.zipIdx_cons, List.foldl_cons, List.length_cons] at this ⊢
    rw [this]
    simp only [Array.toList_setIfInBounds, List.cons_append]
    rw [List.take_set, List.drop_set]
    rw [if_pos (by omega)]
    have hlt : o + i < arr.toList.length := by simp; omega
    have e2 : (arr.toList.take (o + (i + 1))) = arr.toList.take (o + i) ++ [arr.toList[o + i]] := by
      rw [← Nat.add_assoc, List.take_succ_eq_append_getElem hlt]
    rw [e2, List.set_append_right _ _ (by simp; omega)]
    simp only [List.length_take]
    rw [show o + i - min (o + i) arr.toList.length = 0 from by omega]
    simp [show o + (i + 1) + vs.length = o + i + (vs.length + 1) from by omega]

theorem fold_set (vs : Array Value) (o : Nat) (arr : Array Value) (h : o + vs.size ≤ arr.size) :
    (vs.zipIdx.foldl (fun cs (x : Value × Nat) => cs.setIfInBounds (o + x.2) x.1) arr).toList = arr.toList.take o ++ (vs.toList ++ arr.toList.drop (o + vs.toList.length)) := by
  rw [← Array.foldl_toList, Array.toList_zipIdx]
  simpa using fold_setL vs.toList o arr 0 (by simpa using h)

theorem Cells.putAt {cs new : List D} {us vs : List Value} (h : Cells C w cs us) (hn : Cells C w new vs) (o : Nat) (ho : o + new.length ≤ cs.length) :
    Cells C w (putAt cs o new) (us.take o ++ (vs ++ us.drop (o + vs.length))) := by
  refine ⟨?_, fun j c u hj hu => ?_⟩
  · simp only [Eng.putAt, List.length_append, List.length_take, List.length_drop, h.1, hn.1]
  · unfold Eng.putAt at hj
    have hlt : (cs.take o).length = o := by simp; omega
    have hlt' : (us.take o).length = o := by have := h.1; simp; omega
    rw [List.getElem?_append, hlt] at hj
    rw [List.getElem?_append, hlt'] at hu
    split at hj
    · rename_i hjo
      rw [if_pos hjo] at hu
      rw [List.getElem?_take, if_pos hjo] at hj hu
      exact h.2 j c u hj hu
    · rename_i hjo
      rw [if_neg hjo] at hu
      rw [List.getElem?_append] at hj hu
      rw [hn.1] at hu
      split at hj
      · rename_i h2
        rw [if_pos h2] at hu
        exact hn.2 _ c u hj hu
      · rename_i h2
        rw [if_neg h2] at hu
        rw [List.getElem?_drop] at hj hu
        exact h.2 _ c u hj hu

theorem fill_ok {place : List (Nat × Nat)} : ∀ (parts : List (Nat × D)) (vparts : List (Nat × Value)) (cs : List D) (us : Array Value) (out : List D),
    fillD place cs parts = some out → Cells C w cs us.toList → (parts.map (·.1) = vparts.map (·.1)) → (∀ (j : Nat) p q, parts[j]? = some p → vparts[j]? = some q → Rep C w p.2 q.2) →
    ∃ r, Instr.fill (place[·]?) us vparts = some r ∧ Cells C w out r.toList := by
  intro parts
  induction parts with
  | nil =>
    intro vparts cs us out h hc hm _
    cases vparts with
    | nil => simp only [fillD, Option.some.injEq] at h; subst h; exact ⟨us, rfl, hc⟩
    | cons q vs => simp at hm
  | cons p parts ih =>
    intro vparts cs us out h hc hm hr
    cases vparts with
    | nil => simp at hm
    | cons q vs =>
      obtain ⟨i, d⟩ := p
      obtain ⟨i', u⟩ := q
      simp only [List.map_cons, List.cons.injEq] at hm
      obtain ⟨rfl, hm⟩ := hm
      have hd : Rep C w d u := hr 0 _ _ rfl rfl
      simp only [fillD] at h
      cases hp : place[i]? with
      | none => rw [hp] at h; cases h
      | some x =>
        obtain ⟨off, size⟩ := x
        rw [hp] at h
        simp only at h
        split at h
        · rename_i hcond
          obtain ⟨h1, h2, h3⟩ := hcond
          have hcu := Cells.of_rep h3 hd
          have hsz : u.cells.size = size := by rw [← h1, ← hcu.1]; simp
          have hus : us.size = cs.length := by rw [← hc.1]; simp
          have hfold := fold_set u.cells off us (by omega)
          have hnew := Cells.putAt (o := off) hc hcu (by rw [h1]; exact h2)
          rw [← hfold] at hnew
          obtain ⟨r, hr1, hr2⟩ := ih vs _ _ out h hnew hm (fun j p q hj hq => hr (j + 1) p q (by simpa using hj) (by simpa using hq))
          refine ⟨r, ?_, hr2⟩
          have hcn : (decide (u.cells.size ≠ size) || decide (off + u.cells.size > us.size)) = false := by simp; omega
          simp only [Instr.fill, hp, hcn]
          exact hr1
        · cases h
end
end Go.Eng

namespace Go.Eng
variable {P : Program}

def upTo (hi : Option Int) (es : List (List D)) : List (List D) := match hi with | some h => es.take h.toNat | none => es

/-- a slice expression -/
def cutK (c : Bool) (S : St) (d : D) (lo hi : Option Int) (k : D → Prop) : Prop :=
  match d with
  | .v (.string s) =>
    (c = true → 0 ≤ lo.getD 0 ∧ lo.getD 0 ≤ hi.getD s.size ∧ hi.getD s.size ≤ s.size) ∧ k (.v (.string (s.extract (lo.getD 0).toNat (hi.getD s.size).toNat)))
  | .sl k' es =>
    (c = true → 0 ≤ lo.getD 0 ∧ lo.getD 0 ≤ hi.getD es.length ∧ hi.getD es.length ≤ es.length) ∧
      k (.sl k' ((upTo hi es).drop (lo.getD 0).toNat))
  | .own s g =>
    match frozOf S s g with
    | some (k', es) =>
      (c = true → 0 ≤ lo.getD 0 ∧ lo.getD 0 ≤ hi.getD es.length ∧ hi.getD es.length ≤ es.length) ∧
        k (.sl k' ((upTo hi es).drop (lo.getD 0).toNat))
    | none => False
  | _ => False

section
variable {w0 : World} {B : Nat → Nat → Prop} {C0 : Ctx} {n : Nat} {S : St} {C : Ctx} {a : Act} {w : World}

theorem Rep.cutSl {k : Nat} {es : List (List D)} {b o cap : Nat} {us : Nat → Nat → Value} {l h : Nat} (hl : es.length ≤ cap) (hm : cap ≤ maxLen) (hk : ∀ e ∈ es, e.length = k)
    (hc : ∀ (i j : Nat) e c, es[i]? = some e → e[j]? = some c → ¬ C.owns b ∧ w.cell? ⟨b, o + (i * k + j), none⟩ = some (us i j))
    (hh : ∀ (i j : Nat) e c, es[i]? = some e → e[j]? = some c → Rep C w c (us i j)) (hlh : l ≤ h) (hle : h ≤ es.length) :
    Rep C w (.sl k ((es.take h).drop l)) (.slice (if cap = l then some ⟨b, o, none⟩ else some (Addr.add ⟨b, o, none⟩ (l * k))) (h - l) (cap - l)) := by
  have hlen : ((es.take h).drop l).length = h - l := by simp; omega
  by_cases h0 : h = l
  · subst h0
    have : (es.take h).drop h = [] := List.eq_nil_of_length_eq_zero (by omega)
    rw [this, Nat.sub_self]
    exact .slE _ _ _ (by omega)
  · rw [if_neg (by omega), Addr.add_lit, ← hlen]
    have hat : ∀ i e, ((es.take h).drop l)[i]? = some e → es[l + i]? = some e := fun i e he => by
      rw [List.getElem?_drop, List.getElem?_take] at he
      split at he
      · exact he
      · cases he
    refine .sl _ _ b (o + l * k) _ (fun i j => us (l + i) j) (by omega) (by omega) (fun e he => hk e (List.mem_of_mem_take (List.mem_of_mem_drop he))) (fun i j e c hi hj => ?_) (fun i j e c hi hj => hh _ _ _ _ (hat i e hi) hj)
    have := hc _ _ _ _ (hat i e hi) hj
    rwa [show o + l * k + (i * k + j) = o + ((l + i) * k + j) from by rw [Nat.add_mul]; omega]

/-- the bounds of a slice expression -/
theorem run_bounds {isS : Bool} {len cap : Nat} {lo hi : Option Int} (hc : len ≤ cap) (h : 0 ≤ lo.getD 0 ∧ lo.getD 0 ≤ hi.getD len ∧ hi.getD len ≤ len) (w : World) :
    (Instr.sliceBounds isS len cap (lo.map (Value.int .i64)) (hi.map (Value.int .i64)) none).run P w = .ok ((lo.getD 0).toNat, (hi.getD len).toNat, cap) w := by
  unfold Instr.sliceBounds Instr.sliceBound
  cases lo with
  | none =>
    cases hi with
    | none => simp
    | some x =>
      simp only [Option.getD_some, Option.getD_none] at h
      have h1 : 0 ≤ x ∧ x ≤ (cap : Int) := ⟨by omega, by omega⟩
      simp [asIntOf, h1]
  | some y =>
    cases hi with
    | none =>
      simp only [Option.getD_some, Option.getD_none] at h
      have h1 : 0 ≤ y ∧ y ≤ (len : Int) := ⟨by omega, by omega⟩
      simp [asIntOf, h1]
    | some x =>
      simp only [Option.getD_some] at h
      have h1 : 0 ≤ x ∧ x ≤ (cap : Int) := ⟨by omega, by omega⟩
      have h2 : 0 ≤ y ∧ y ≤ x := ⟨by omega, by omega⟩
      have h3 : max x 0 = x := by omega
      simp [asIntOf, h1, h2, h3]

theorem cut_sl {t e : TypeId} {sz by' : Nat} (ht : slOf P t = some (e, sz, by')) {lo hi : Option Int} {k' : Nat} {es : List (List D)} (hk' : k' = sz) {u : Value} (hr : Rep C w (.sl k' es) u)
    (hb : 0 ≤ lo.getD 0 ∧ lo.getD 0 ≤ hi.getD es.length ∧ hi.getD es.length ≤ es.length) :
    ∃ u', Rep C w (.sl k' ((upTo hi es).drop (lo.getD 0).toNat)) u' ∧
      ∀ w', (Instr.sliceAt t u (lo.map (Value.int .i64)) (hi.map (Value.int .i64)) none).run P w' = .ok u' w' := by
  obtain ⟨inf, h1, h2, h3, _⟩ := slOf_spec ht
  subst hk'
  have ee : upTo hi es = es.take (hi.getD es.length).toNat := by cases hi <;> simp [upTo]
  rw [ee]
  cases hr with
  | slE _ ao cap hm =>
    have e0 : (List.take (hi.getD ([] : List (List D)).length).toNat ([] : List (List D))).drop (lo.getD 0).toNat = [] := by simp
    rw [e0]
    simp only [List.length_nil] at hb
    refine ⟨.slice (if cap = 0 then ao else ao.map (·.add (0 * k'))) 0 cap, .slE _ _ _ hm, fun w' => ?_⟩
    have hl0 : lo.getD 0 = 0 := by omega
    have hh0 : hi.getD 0 = 0 := by
      have h1 := hb.2.1; have h2 := hb.2.2
      simp only [Int.ofNat_zero] at *
      omega
    simp [Instr.sliceAt, Instr.slice, run_underlying h1, run_bounds (isS := true) (len := 0) (cap := cap) (Nat.zero_le _) hb, run_sizeOf' h2, h3, hl0, hh0]
  | sl _ _ b o cap us hl hm hk hc hh =>
    refine ⟨_, Rep.cutSl (l := (lo.getD 0).toNat) (h := (hi.getD es.length).toNat) hl hm hk hc hh (by omega) (by omega), fun w' => ?_⟩
    simp [Instr.sliceAt, Instr.slice, run_underlying h1, run_bounds (isS := true) hl hb, run_sizeOf' h2, h3]

theorem cut_ok (I : Inv w0 B C0 n S C a w) {t : TypeId} {d : D} {c : Bool} {lo hi : Option Int} {u : Value} {k : D → Prop} (h : cutK c S d lo hi k)
    (hs : ∀ s, d = .v (.string s) → P.underlying t = some .string) (hl : ∀ k' es, (d = .sl k' es ∨ ∃ s g, d = .own s g ∧ frozOf S s g = some (k', es)) → ∃ e b, slOf P t = some (e, k', b)) :
    ∃ d', k d' ∧ (c = true → Rep C w d u → ∃ u', Rep C w d' u' ∧ ∀ w', (Instr.sliceAt t u (lo.map (Value.int .i64)) (hi.map (Value.int .i64)) none).run P w' = .ok u' w') := by
  cases d with
  | v x =>
    cases x with
    | string s =>
      refine ⟨_, h.2, fun hc hr => ?_⟩
      obtain rfl := hr.v_inv
      have hb := h.1 hc
      refine ⟨_, .v _, fun w' => ?_⟩
      simp [Instr.sliceAt, Instr.slice, run_underlying (hs s rfl), run_bounds (isS := false) (Nat.le_refl s.size) hb]
    | _ => exact h.elim
  | sl k' es =>
    refine ⟨_, h.2, fun hc hr => ?_⟩
    obtain ⟨e, b, ht⟩ := hl k' es (.inl rfl)
    exact cut_sl ht rfl hr (h.1 hc)
  | own s g =>
    simp only [cutK] at h
    cases hf : frozOf S s g with
    | none => rw [hf] at h; exact h.elim
    | some x =>
      obtain ⟨k', es⟩ := x
      rw [hf] at h
      refine ⟨_, h.2, fun hc hr => ?_⟩
      obtain ⟨e, b, ht⟩ := hl k' es (.inr ⟨s, g, rfl, hf⟩)
      obtain ⟨u', hv, hrep⟩ := I.heap s g _ (frozOf_spec hf)
      cases hr with
      | own _ _ _ hv' _ =>
        rw [hv] at hv'
        simp only [Option.some.injEq] at hv'
        subst hv'
        exact cut_sl ht rfl hrep (h.1 hc)
  | _ => exact h.elim
end
end Go.Eng
