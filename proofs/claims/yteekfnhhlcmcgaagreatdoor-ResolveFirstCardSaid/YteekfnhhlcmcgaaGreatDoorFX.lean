/- Part of a proof: see the last text. -/
import Derived.Test.YteekfnhhlcmcgaaGreatDoorG06
import Derived.Test.YteekfnhhlcmcgaaGreatDoorHB
set_option linter.unusedVariables false
set_option linter.unusedSimpArgs false
namespace Go.Proofs.YteekfnhhlcmcgaaGreatDoor
open Go.Eng
@[go_sem] theorem zr32 : zeroOf Tryz.prog 32 = some [.slice none 0 0] := by kernel_rfl
@[go_sem] theorem ty32 : tyOf Tryz.prog 32 = some (true, 1) := by kernel_rfl
@[go_sem] theorem ct32 : cellTys Tryz.prog 32 = [some 2] := by kernel_rfl
@[go_sem] theorem ct38 : cellTys Tryz.prog 38 = [some 2] := by kernel_rfl
@[go_sem] theorem bs3_80 : bytesOf Tryz.prog 3 80 = none := by kernel_rfl
@[go_sem] theorem bs80_3 : bytesOf Tryz.prog 80 3 = none := by kernel_rfl
@[go_sem] theorem ct34 : cellTys Tryz.prog 34 = [some 2] := by kernel_rfl
@[go_sem] theorem zr3 : zeroOf Tryz.prog 3 = some [.int .i64 0] := by kernel_rfl
@[go_sem] theorem bl116 : bldOf Tryz.prog 116 = some ([(0, 1), (1, 1)], [.string ⟨#[]⟩, .slice none 0 0]) := by kernel_rfl
@[go_sem] theorem sl117 : slOf Tryz.prog 117 = some (116, 2, 40) := by kernel_rfl
@[go_sem] theorem zr116 : zeroOf Tryz.prog 116 = some [.string ⟨#[]⟩, .slice none 0 0] := by kernel_rfl
@[go_sem] theorem bl119 : bldOf Tryz.prog 119 = some ([(0, 1), (1, 1)], [.string ⟨#[]⟩, .slice none 0 0]) := by kernel_rfl
@[go_sem] theorem sl30 : slOf Tryz.prog 30 = some (119, 2, 40) := by kernel_rfl
@[go_sem] theorem zr119 : zeroOf Tryz.prog 119 = some [.string ⟨#[]⟩, .slice none 0 0] := by kernel_rfl
@[go_sem] theorem bl32 : bldOf Tryz.prog 32 = some ([(0, 1)], [.slice none 0 0]) := by kernel_rfl
@[go_sem] theorem ty119 : tyOf Tryz.prog 119 = some (true, 2) := by kernel_rfl
@[go_sem] theorem fl119_1 : fldOf Tryz.prog 119 1 = some (1, false, 1) := by kernel_rfl
@[go_sem] theorem ty117 : tyOf Tryz.prog 117 = some (false, 1) := by kernel_rfl
@[go_sem] theorem fl32_0 : fldOf Tryz.prog 32 0 = some (0, false, 1) := by kernel_rfl
@[go_sem] theorem ty30 : tyOf Tryz.prog 30 = some (false, 1) := by kernel_rfl
@[go_sem] theorem fl119_0 : fldOf Tryz.prog 119 0 = some (0, false, 1) := by kernel_rfl
@[go_sem] theorem ty116 : tyOf Tryz.prog 116 = some (true, 2) := by kernel_rfl
@[go_sem] theorem fl116_0 : fldOf Tryz.prog 116 0 = some (0, false, 1) := by kernel_rfl
@[go_sem] theorem fl116_1 : fldOf Tryz.prog 116 1 = some (1, false, 1) := by kernel_rfl
@[go_sem] theorem fl163_2 : fldOf Tryz.prog 163 2 = some (2, false, 1) := by kernel_rfl
@[go_sem] theorem bl163 : bldOf Tryz.prog 163 = some ([(0, 1), (1, 1), (2, 1), (3, 1), (4, 1), (5, 1)], [.slice none 0 0, .int .i64 0, .int .i64 0, .bool false, .slice none 0 0, .map none]) := by kernel_rfl
@[go_sem] theorem fl163_3 : fldOf Tryz.prog 163 3 = some (3, false, 1) := by kernel_rfl
@[go_sem] theorem ty4 : tyOf Tryz.prog 4 = some (false, 1) := by kernel_rfl
@[go_sem] theorem fl163_0 : fldOf Tryz.prog 163 0 = some (0, true, 1) := by kernel_rfl
@[go_sem] theorem fl163_5 : fldOf Tryz.prog 163 5 = some (5, false, 1) := by kernel_rfl
@[go_sem] theorem ty132 : tyOf Tryz.prog 132 = some (false, 1) := by kernel_rfl
@[go_sem] theorem ct119 : cellTys Tryz.prog 119 = [none, some 2] := by kernel_rfl
@[go_sem] theorem ct116 : cellTys Tryz.prog 116 = [none, some 2] := by kernel_rfl
@[go_sem] theorem mp210 : mapOf Tryz.prog 210 = some (1, 4) := by kernel_rfl
@[go_sem] theorem zv4 : zeroV Tryz.prog 4 = some (.bool false) := by kernel_rfl
@[go_sem] theorem fl163_1 : fldOf Tryz.prog 163 1 = some (1, false, 1) := by kernel_rfl
@[go_sem] theorem fl163_4 : fldOf Tryz.prog 163 4 = some (4, false, 1) := by kernel_rfl
@[go_sem] theorem fl288_1 : fldOf Tryz.prog 288 1 = some (1, false, 1) := by kernel_rfl
@[go_sem] theorem ty321 : tyOf Tryz.prog 321 = some (true, 3) := by kernel_rfl
@[go_sem] theorem ct321 : cellTys Tryz.prog 321 = [none, none, some 2] := by kernel_rfl
@[go_sem] theorem fl321_2 : fldOf Tryz.prog 321 2 = some (2, false, 1) := by kernel_rfl
@[go_sem] theorem ty240 : tyOf Tryz.prog 240 = some (false, 1) := by kernel_rfl
@[go_sem] theorem fl321_0 : fldOf Tryz.prog 321 0 = some (0, false, 1) := by kernel_rfl
end Go.Proofs.YteekfnhhlcmcgaaGreatDoor
set_option linter.unusedVariables false
set_option linter.unusedSimpArgs false
namespace Go.Ver
open Go.Lib Go.Wh
theorem cb_zero : ∀ {a b : List UInt8}, compareBytes a b = 0 ↔ a = b
 | [], [] => by simp [compareBytes]
 | [], _ :: _ => by simp [compareBytes]
 | _ :: _, [] => by simp [compareBytes]
 | x :: a, y :: b => by
  unfold compareBytes
  split
  ·rename_i h; simp; intro e; subst e; exact absurd h (by simp)
  ·split
   ·rename_i h; simp; intro e; subst e; exact absurd h (by simp)
   ·rename_i h1 h2
    have e : x = y := by
     rw [UInt8.lt_iff_toNat_lt] at h1 h2; exact UInt8.toNat_inj.1 (by omega)
    rw [cb_zero]; simp [e]
theorem cb_trans : ∀ {a b c : List UInt8}, compareBytes a b ≤ 0 → compareBytes b c ≤ 0 → compareBytes a c ≤ 0
 | [], _, [], _, _ => by simp [compareBytes]
 | [], _, _ :: _, _, _ => by simp [compareBytes]
 | _ :: _, [], _, h, _ => by simp [compareBytes] at h
 | _ :: _, _ :: _, [], _, h => by simp [compareBytes] at h
 | x :: a, y :: b, z :: c, h1, h2 => by
  unfold compareBytes at *
  simp only [UInt8.lt_iff_toNat_lt] at *
  split at h1
  ·split
   ·simp
   ·split at h2
    ·omega
    ·split at h2
     ·simp at h2
     ·omega
  ·split at h1
   ·simp at h1
   ·split at h2
    ·rw [if_pos (by omega)]; simp
    ·split at h2
     ·simp at h2
     ·rw [if_neg (by omega), if_neg (by omega)]
      exact cb_trans h1 h2
end Go.Ver
set_option linter.unusedVariables false
set_option linter.unusedSimpArgs false
namespace Go.Ver
open Go.Lib Go.Wh
theorem ci_zero {x y : Int} : compareInt x y = 0 ↔ x = y := by unfold compareInt; split <;> (try split) <;> omega
theorem ci_neg (x y : Int) : compareInt x y = -compareInt y x := by unfold compareInt; repeat' split <;> omega
theorem ci_trans {x y z : Int} (h1 : compareInt x y ≤ 0) (h2 : compareInt y z ≤ 0) : compareInt x z ≤ 0 := by
 unfold compareInt at *; repeat' split at * <;> omega
theorem seg2_zero {x y : Seg} : seg2 x y = 0 ↔ x = y := by
 obtain ⟨a, m⟩ := x; obtain ⟨b, n⟩ := y
 unfold seg2
 simp only
 split
 ·rename_i h; simp; intro e; rw [e] at h; exact absurd h.2 h.1
 ·split
  ·rename_i h; simp; intro e; rw [e] at h; exact absurd h.1 h.2
  ·split
   ·rename_i h; rw [cb_zero]; rw [Ne, cb_zero] at h; simp [h]
   ·rename_i h; rw [ci_zero]; simp only [ne_eq, Decidable.not_not, cb_zero] at h; simp [h]
theorem seg2_neg (x y : Seg) : seg2 x y = -seg2 y x := by
 obtain ⟨a, m⟩ := x; obtain ⟨b, n⟩ := y
 unfold seg2
 simp only
 by_cases ha : a = [] <;> by_cases hb : b = [] <;> simp [ha, hb]
 ·simp [compareBytes]; exact ci_neg m n
 ·rw [cb_neg a b, ci_neg m n]
  by_cases h : compareBytes b a = 0
  ·simp [h]
  ·rw [if_neg (by omega), if_neg h]
theorem seg2_trans {x y z : Seg} (h1 : seg2 x y ≤ 0) (h2 : seg2 y z ≤ 0) : seg2 x z ≤ 0 := by
 obtain ⟨a, m⟩ := x; obtain ⟨b, n⟩ := y; obtain ⟨c, k⟩ := z
 unfold seg2 at *
 simp only at *
 by_cases ha : a = [] <;> by_cases hb : b = [] <;> by_cases hc : c = [] <;> simp [ha, hb, hc, compareBytes] at *
 ·exact ci_trans h1 h2
 ·by_cases e1 : compareBytes a b = 0
  ·rw [cb_zero] at e1; subst e1
   have e : compareBytes a a = 0 := cb_zero.2 rfl
   rw [if_pos e] at h1
   by_cases e2 : compareBytes a c = 0
   ·rw [if_pos e2] at h2 ⊢; exact ci_trans h1 h2
   ·rw [if_neg e2] at h2 ⊢; exact h2
  ·rw [if_neg e1] at h1
   by_cases e2 : compareBytes b c = 0
   ·rw [cb_zero] at e2; subst e2; rw [if_neg e1]; exact h1
   ·rw [if_neg e2] at h2
    have := cb_trans h1 h2
    by_cases e3 : compareBytes a c = 0
    ·rw [cb_zero] at e3; subst e3
     have := cb_neg a b
     omega
    ·rw [if_neg e3]; exact this
theorem atV_zero (a : List Seg) : atV a 0 = a.headD z0s := by cases a <;> rfl
theorem atV_succ (a : List Seg) (i : Nat) : atV a (i + 1) = atV a.tail i := by cases a <;> simp [atV]
theorem cmpN_zero : ∀ {n : Nat} {a b : List Seg}, cmpN n a b = 0 ↔ ∀ i, i < n → atV a i = atV b i
 | 0, _, _ => by simp [cmpN]
 | n + 1, a, b => by
  unfold cmpN
  split
  ·rename_i h
   constructor
   ·exact fun e => absurd e h
   ·intro e
    have := e 0 (by omega)
    rw [atV_zero, atV_zero] at this
    exact seg2_zero.2 this
  ·rename_i h
   simp only [ne_eq, Decidable.not_not, seg2_zero] at h
   rw [cmpN_zero]
   constructor
   ·intro e i hi
    cases i with
    | zero => rw [atV_zero, atV_zero]; exact h
    | succ i => rw [atV_succ, atV_succ]; exact e i (by omega)
   ·intro e i hi
    have := e (i + 1) (by omega)
    rwa [atV_succ, atV_succ] at this
theorem cmpN_neg : ∀ (n : Nat) (a b : List Seg), cmpN n a b = -cmpN n b a
 | 0, _, _ => rfl
 | n + 1, a, b => by
  unfold cmpN
  have h := seg2_neg (a.headD z0s) (b.headD z0s)
  by_cases e : seg2 (b.headD z0s) (a.headD z0s) = 0
  ·rw [if_neg (by omega), if_neg (by omega), cmpN_neg n]
  ·rw [if_pos (by omega), if_pos (by omega)]; exact h
theorem cmpN_trans : ∀ {n : Nat} {a b c : List Seg}, cmpN n a b ≤ 0 → cmpN n b c ≤ 0 → cmpN n a c ≤ 0
 | 0, _, _, _, _, _ => by simp [cmpN]
 | n + 1, a, b, c, h1, h2 => by
  unfold cmpN at *
  generalize a.headD z0s = x at *
  generalize b.headD z0s = y at *
  generalize c.headD z0s = z at *
  by_cases e1 : seg2 x y = 0
  ·rw [if_neg (by omega)] at h1
   rw [seg2_zero] at e1; subst e1
   by_cases e2 : seg2 x z = 0
   ·rw [if_neg (by omega)] at h2 ⊢; exact cmpN_trans h1 h2
   ·rw [if_pos (by omega)] at h2 ⊢; exact h2
  ·rw [if_pos (by omega)] at h1
   by_cases e2 : seg2 y z = 0
   ·rw [seg2_zero] at e2; subst e2; rw [if_pos (by omega)]; exact h1
   ·rw [if_pos (by omega)] at h2
    have := seg2_trans h1 h2
    by_cases e3 : seg2 x z = 0
    ·rw [seg2_zero] at e3; subst e3
     have := seg2_neg x y
     omega
    ·rw [if_pos (by omega)]; exact this
theorem cmpN_eq_right {n : Nat} {a b c : List Seg} (h : cmpN n b c = 0) : cmpN n a b = cmpN n a c := by
 have h' := cmpN_zero.1 h
 clear h
 induction n generalizing a b c with
 | zero => rfl
 | succ n ih =>
  unfold cmpN
  have h0 := h' 0 (by omega)
  rw [atV_zero, atV_zero] at h0
  rw [h0, ih (a := a.tail) (b := b.tail) (c := c.tail) (fun i hi => by have := h' (i + 1) (by omega); rwa [atV_succ, atV_succ] at this)]
theorem cmpN_nil : ∀ n, cmpN n [] [] = 0
 | 0 => rfl
 | n + 1 => by unfold cmpN; simp [seg2_zero.2, cmpN_nil n]
theorem cmpN_more : ∀ (n m : Nat) (a b : List Seg), a.length ≤ n → b.length ≤ n → n ≤ m → cmpN m a b = cmpN n a b
 | 0, m, a, b, ha, hb, _ => by
  cases a with
  | nil => cases b with
   | nil => rw [cmpN_nil, cmpN_nil]
   | cons => simp at hb
  | cons => simp at ha
 | n + 1, 0, _, _, _, _, h => absurd h (by omega)
 | n + 1, m + 1, a, b, ha, hb, h => by
  unfold cmpN
  rw [cmpN_more n m a.tail b.tail (by simp; omega) (by simp; omega) (by omega)]
theorem cmpV_of {n : Nat} {a b : List Seg} (ha : a.length ≤ n) (hb : b.length ≤ n) : cmpV a b = cmpN n a b :=
 (cmpN_more (max a.length b.length) n a b (by omega) (by omega) (by omega)).symm
theorem cmpV_neg (a b : List Seg) : cmpV a b = -cmpV b a := by
 rw [cmpV_of (n := a.length + b.length) (by omega) (by omega), cmpV_of (n := a.length + b.length) (a := b) (by omega) (by omega)]; exact cmpN_neg _ _ _
theorem cmpV_trans {a b c : List Seg} (h1 : cmpV a b ≤ 0) (h2 : cmpV b c ≤ 0) : cmpV a c ≤ 0 := by
 rw [cmpV_of (n := a.length + b.length + c.length) (by omega) (by omega)] at *
 exact cmpN_trans h1 h2
theorem cmpV_right {a b c : List Seg} (h : cmpV b c = 0) : cmpV a b = cmpV a c := by
 rw [cmpV_of (n := a.length + b.length + c.length) (by omega) (by omega)] at *
 rw [cmpV_of (n := a.length + b.length + c.length) (by omega) (by omega)]
 exact cmpN_eq_right h
theorem cmpV_left {a b c : List Seg} (h : cmpV b c = 0) : cmpV b a = cmpV c a := by
 rw [cmpV_neg b a, cmpV_neg c a, cmpV_right h]
theorem cmpV_strict {a b c : List Seg} (h1 : cmpV a b < 0) (h2 : cmpV b c ≤ 0) : cmpV a c < 0 := by
 have h := cmpV_trans (by omega : cmpV a b ≤ 0) h2
 by_cases e : cmpV a c = 0
 ·have := cmpV_left (a := b) e
  have := cmpV_neg c b
  omega
 ·omega
end Go.Ver
set_option linter.unusedVariables false
set_option linter.unusedSimpArgs false
namespace Go.Ver
variable {α : Type} {lt : α → α → Bool}
def mergeL (lt : α → α → Bool) : List α → List α → List α
 | [], R => R
 | L, [] => L
 | l :: L, r :: R => if lt r l = true then r :: mergeL lt (l :: L) R else l :: mergeL lt L (r :: R)
termination_by L R => L.length + R.length
def Srt (lt : α → α → Bool) (l : List α) : Prop := l.Pairwise fun x y => lt y x = false
theorem merge_nil_r (L : List α) : mergeL lt L [] = L := by cases L <;> simp [mergeL]
theorem merge_nil_l (R : List α) : mergeL lt [] R = R := by simp [mergeL]
theorem merge_cons (l : α) (L : List α) (r : α) (R : List α) : mergeL lt (l :: L) (r :: R) = if lt r l = true then r :: mergeL lt (l :: L) R else l :: mergeL lt L (r :: R) := by
 rw [mergeL]
theorem merge_mem : ∀ {L R : List α} {x : α}, x ∈ mergeL lt L R ↔ x ∈ L ∨ x ∈ R
 | [], R, x => by simp [merge_nil_l]
 | l :: L, [], x => by simp [merge_nil_r]
 | l :: L, r :: R, x => by
  rw [merge_cons]
  split
  ·rw [List.mem_cons, merge_mem]; simp only [List.mem_cons]; grind
  ·rw [List.mem_cons, merge_mem]; simp only [List.mem_cons]; grind
termination_by L R => L.length + R.length
theorem merge_srt (w : Weakly lt) : ∀ {L R : List α}, Srt lt L → Srt lt R → Srt lt (mergeL lt L R)
 | [], R, _, h => by rw [merge_nil_l]; exact h
 | l :: L, [], h, _ => by rw [merge_nil_r]; exact h
 | l :: L, r :: R, h1, h2 => by
  have a1 := List.pairwise_cons.1 h1
  have a2 := List.pairwise_cons.1 h2
  rw [merge_cons]
  split
  ·rename_i h
   refine List.pairwise_cons.2 ⟨fun y hy => ?_, merge_srt w h1 a2.2⟩
   rcases merge_mem.1 hy with hy | hy
   ·rcases List.mem_cons.1 hy with rfl | hy
    ·exact w.anti _ _ h
    ·exact w.neg _ _ _ (w.anti _ _ h) (a1.1 y hy)
   ·exact a2.1 y hy
  ·rename_i h
   have h' : lt r l = false := by simpa using h
   refine List.pairwise_cons.2 ⟨fun y hy => ?_, merge_srt w a1.2 h2⟩
   rcases merge_mem.1 hy with hy | hy
   ·exact a1.1 y hy
   ·rcases List.mem_cons.1 hy with rfl | hy
    ·exact h'
    ·exact w.neg _ _ _ h' (a2.1 y hy)
termination_by L R => L.length + R.length
theorem merge_split : ∀ {L1 L2 R1 R2 : List α}, (∀ x ∈ L1, ∀ y ∈ R2, lt y x = false) → (∀ y ∈ R1, ∀ x ∈ L2, lt y x = true) →
  mergeL lt (L1 ++ L2) (R1 ++ R2) = mergeL lt L1 R1 ++ mergeL lt L2 R2
 | [], L2, [], R2, _, _ => by simp [merge_nil_l]
 | [], L2, r :: R1, R2, h1, h2 => by
  rw [merge_nil_l]
  cases L2 with
  | nil => simp [merge_nil_l]
  | cons x L2 =>
   have ih := merge_split (L1 := []) (L2 := x :: L2) (R1 := R1) (R2 := R2) (by simp) (fun y hy => h2 y (by simp [hy]))
   simp only [List.nil_append, merge_nil_l] at ih
   simp only [List.nil_append, List.cons_append]
   rw [merge_cons, if_pos (h2 r (by simp) x (by simp)), ih]
 | l :: L1, L2, [], R2, h1, h2 => by
  rw [merge_nil_r]
  cases R2 with
  | nil => simp [merge_nil_r]
  | cons y R2 =>
   have ih := merge_split (L1 := L1) (L2 := L2) (R1 := []) (R2 := y :: R2) (fun x hx => h1 x (by simp [hx])) (by simp)
   simp only [List.nil_append, merge_nil_r] at ih
   simp only [List.nil_append, List.cons_append]
   rw [merge_cons, if_neg (by rw [h1 l (by simp) y (by simp)]; simp), ih]
 | l :: L1, L2, r :: R1, R2, h1, h2 => by
  simp only [List.cons_append]
  rw [merge_cons, merge_cons]
  have e1 := merge_split (L1 := l :: L1) (L2 := L2) (R1 := R1) (R2 := R2) h1 (fun y hy => h2 y (by simp [hy]))
  have e2 := merge_split (L1 := L1) (L2 := L2) (R1 := r :: R1) (R2 := R2) (fun x hx => h1 x (by simp [hx])) h2
  simp only [List.cons_append] at e1 e2
  split
  ·rw [e1]; rfl
  ·rw [e2]; rfl
termination_by L1 L2 R1 R2 => L1.length + R1.length
theorem merge_assoc (w : Weakly lt) : ∀ {A B C : List α}, Srt lt A → Srt lt B → Srt lt C → mergeL lt (mergeL lt A B) C = mergeL lt A (mergeL lt B C)
 | [], B, C, _, _, _ => by rw [merge_nil_l, merge_nil_l]
 | a :: A, [], C, _, _, _ => by rw [merge_nil_r, merge_nil_l]
 | a :: A, b :: B, [], _, _, _ => by rw [merge_nil_r, merge_nil_r]
 | a :: A, b :: B, c :: C, h1, h2, h3 => by
  have a1 := List.pairwise_cons.1 h1
  have a2 := List.pairwise_cons.1 h2
  have a3 := List.pairwise_cons.1 h3
  have i1 := merge_assoc w (A := a :: A) (B := b :: B) (C := C) h1 h2 a3.2
  have i2 := merge_assoc w (A := a :: A) (B := B) (C := c :: C) h1 a2.2 h3
  have i3 := merge_assoc w (A := A) (B := b :: B) (C := c :: C) a1.2 h2 h3
  rw [merge_cons a A b B, merge_cons b B c C]
  by_cases hba : lt b a = true
  ·rw [if_pos hba, merge_cons b _ c C]
   by_cases hcb : lt c b = true
   ·have hca : lt c a = true := by
     cases h : lt c a with
     | true => rfl
     | false =>
      have := w.neg a c b h (w.anti _ _ hcb)
      rw [hba] at this; cases this
    rw [if_pos hcb, if_pos hcb, merge_cons a A c _, if_pos hca]
    rw [merge_cons a A b B, if_pos hba] at i1
    rw [i1]
   ·rw [if_neg hcb, if_neg hcb, merge_cons a A b _, if_pos hba, i2]
  ·rw [if_neg hba, merge_cons a _ c C]
   by_cases hcb : lt c b = true
   ·rw [if_pos hcb]
    by_cases hca : lt c a = true
    ·rw [if_pos hca, merge_cons a A c _, if_pos hca]
     rw [merge_cons a A b B, if_neg hba] at i1
     rw [i1]
    ·rw [if_neg hca, merge_cons a A c _, if_neg hca, i3, merge_cons b B c C, if_pos hcb]
   ·rw [if_neg hcb]
    have hca : lt c a = false := w.neg a b c (by simpa using hba) (by simpa using hcb)
    rw [if_neg (by rw [hca]; simp), merge_cons a A b _, if_neg hba, i3, merge_cons b B c C, if_neg hcb]
termination_by A B C => A.length + B.length + C.length
def sortL (lt : α → α → Bool) : List α → List α
 | [] => []
 | x :: l => mergeL lt [x] (sortL lt l)
theorem sort_srt (w : Weakly lt) : ∀ l, Srt lt (sortL lt l)
 | [] => List.Pairwise.nil
 | x :: l => merge_srt w (List.pairwise_singleton _ _) (sort_srt w l)
theorem sort_app (w : Weakly lt) : ∀ (A B : List α), sortL lt (A ++ B) = mergeL lt (sortL lt A) (sortL lt B)
 | [], B => by simp [sortL, merge_nil_l]
 | x :: A, B => by
  show mergeL lt [x] (sortL lt (A ++ B)) = _
  rw [sort_app w A B, ← merge_assoc w (List.pairwise_singleton _ _) (sort_srt w A) (sort_srt w B)]; rfl
theorem sort_one (x : α) : sortL lt [x] = [x] := by simp [sortL, merge_nil_r]
theorem sort_snoc (w : Weakly lt) (A : List α) (x : α) : sortL lt (A ++ [x]) = mergeL lt (sortL lt A) [x] := by rw [sort_app w, sort_one]
theorem merge_one_split (w : Weakly lt) {A B : List α} {x : α} (h1 : ∀ y ∈ A, lt x y = false) (h2 : ∀ y ∈ B, lt x y = true) : mergeL lt (A ++ B) [x] = A ++ x :: B := by
 have := merge_split (L1 := A) (L2 := B) (R1 := [x]) (R2 := []) (by simp) (fun y hy z hz => by simp at hy; subst hy; exact h2 z hz)
 simp only [List.append_nil, merge_nil_r] at this
 rw [this]
 have e : mergeL lt A [x] = A ++ [x] := by
  have := merge_split (L1 := A) (L2 := []) (R1 := []) (R2 := [x]) (fun y hy z hz => by simp at hz; subst hz; exact h1 y hy) (by simp)
  simpa [merge_nil_r, merge_nil_l] using this
 rw [e]; simp
end Go.Ver
set_option linter.unusedVariables false
set_option linter.unusedSimpArgs false
set_option linter.unusedSectionVars false
namespace Go.Eng
variable {P : Program} [HasGlob P] {n : Nat} {S : St} {Q : Exit → St → Prop}
theorem viewC_none (sl : List (Nat × D)) (d : D) : viewC ⟨sl, []⟩ none d = d := by
 cases d with
 | v x => unfold viewC; split <;> simp_all
 | own s g => rfl
 | _ => rfl
theorem viewP_none (sl : List (Nat × D)) (d : D) : viewP ⟨sl, []⟩ d = d := by
 cases d with
 | v x => exact viewC_none sl (.v x)
 | _ => rfl
@[go_sem] theorem viewP_map_none (sl : List (Nat × D)) (cs : List D) : cs.map (viewP ⟨sl, []⟩) = cs := by
 have : (viewP ⟨sl, []⟩) = id := funext fun d => viewP_none sl d
 rw [this, List.map_id]
theorem hsP_none (sl : List (Nat × D)) (d : D) : hsP ⟨sl, []⟩ d = [] := by
 cases d with
 | ptr s g off => rfl
 | own s g => rfl
 | _ => rfl
@[go_sem] theorem hsP_flat_none (sl : List (Nat × D)) (cs : List D) : cs.flatMap (hsP ⟨sl, []⟩) = [] := by
 rw [List.flatMap_eq_nil_iff]
 exact fun d _ => hsP_none sl d
end Go.Eng
set_option linter.unusedVariables false
set_option linter.unusedSimpArgs false
set_option linter.unusedSectionVars false
namespace Go.Eng
open Go.RowKit Go.WideShapes Go.ChangeShapes
variable {P : Program} [HasGlob P]
theorem opensD_int {t : TypeId} (ht : P.underlying t = some (.int .i64)) : OpensD P t (fun n : Int => [.v (.int .i64 n)]) InR := fun enc w spare held fuel cs x h => by
 obtain ⟨n, rfl, rfl, hw⟩ := DataW.trod_int ht h
 exact ⟨n, RepC.one (.v _), bounds_i64 hw⟩
theorem opensD_slice {α : Type} {t e : TypeId} {k : Nat} {f : α → List D} {Q : α → Prop} (ht : P.underlying t = some (.slice e)) (hk : P.cellsOf e = k) (hpos : 0 < k) (hf : ∀ a, (f a).length = k) (h : OpensD P e f Q) :
  OpensD P t (fun l : List α => [.sl k (l.map f)]) (fun l => l.length ≤ maxLen ∧ ∀ a ∈ l, Q a) := fun enc w spare held fuel cs x hx => by
 rcases DataW.trod_slice ht hx with ⟨rfl, _⟩ | ⟨a, len, cap, elems, rest, n, _, rfl, _, _, hlc, hmax, hlen, hel, _, _⟩
 ·exact ⟨[], RepC.one (.slE _ _ _ (Nat.zero_le _)), by simp, by simp⟩
 rw [hk] at hel
 have each : ∀ i, i < len → ∃ cs' a', w.cells? 0 (a.add (i * k)) k = some cs' ∧ RepC w (f a') cs' ∧ Q a' := fun i hi => by
  have h1 := hel i hi
  obtain ⟨y, hy⟩ : ∃ y, elems[i]? = some y := ⟨_, List.getElem?_eq_getElem (by omega)⟩
  rw [hy, Option.bind_eq_some_iff] at h1
  obtain ⟨cs', h2, h3⟩ := h1
  obtain ⟨a', h4, h5⟩ := h enc w spare held n cs' y h3
  exact ⟨cs', a', h2, h4, h5⟩
 have build : ∀ m, m ≤ len → ∃ l : List α, l.length = m ∧ ∀ i, i < m → ∃ cs' a', l[i]? = some a' ∧ w.cells? 0 (a.add (i * k)) k = some cs' ∧ RepC w (f a') cs' ∧ Q a' := fun m => by
  induction m with
  | zero => exact fun _ => ⟨[], rfl, fun i hi => by omega⟩
  | succ m ih =>
   intro hm
   obtain ⟨l, h1, h2⟩ := ih (by omega)
   obtain ⟨cs', a', h3, h4, h5⟩ := each m (by omega)
   refine ⟨l ++ [a'], by simp [h1], fun i hi => ?_⟩
   by_cases hi' : i < m
   ·obtain ⟨c1, a1, g1, g2⟩ := h2 i hi'
    exact ⟨c1, a1, by rw [List.getElem?_append_left (by omega)]; exact g1, g2⟩
   ·have : i = m := by omega
    subst this
    exact ⟨cs', a', by rw [List.getElem?_append_right (by omega), h1]; simp, h3, h4, h5⟩
 obtain ⟨l, hl1, hl2⟩ := build len (Nat.le_refl _)
 refine ⟨l, RepC.one ?_, by omega, fun x hx => ?_⟩
 ·cases hle : len with
  | zero =>
   have : l = [] := List.length_eq_zero_iff.1 (by omega)
   subst this
   exact .slE _ _ _ hmax
  | succ m =>
   have hsp : a.spot = none := by
    obtain ⟨cs', a', _, h3, _⟩ := hl2 0 (by omega)
    obtain ⟨h4, h5⟩ := cells_at h3
    have h6 := h5 0 (cs'[0]'(by omega)) (List.getElem?_eq_getElem _)
    simp only [Nat.zero_mul, Addr.add, if_true] at h6
    unfold World.cell? at h6
    split at h6
    ·split at h6
     ·cases h6
     ·rename_i hs; simpa using hs
    ·cases h6
   have ea : a = ⟨a.block, a.off, none⟩ := by cases a; simp at hsp; subst hsp; rfl
   have lm : (l.map f).length = len := by simp [hl1]
   rw [← hle, ← lm, ea]
   refine .sl k (l.map f) a.block a.off cap (fun i j => ((w.cells? 0 (a.add (i * k)) k).bind (·[j]?)).getD undef) (by omega) hmax (fun e he => ?_) (fun i j e' c hi hj => ?_) (fun i j e' c hi hj => ?_)
   ·obtain ⟨x, _, rfl⟩ := List.mem_map.1 he
    exact hf x
   all_goals
    have hil : i < len := by have := (List.getElem?_eq_some_iff.1 hi).1; omega
    obtain ⟨cs', a', g1, g2, g3, g4⟩ := hl2 i hil
    rw [List.getElem?_map, g1] at hi
    simp only [Option.map_some, Option.some.injEq] at hi
    subst hi
    obtain ⟨g5, g6⟩ := cells_at g2
    have hjl : j < cs'.length := by rw [g3.1]; exact (List.getElem?_eq_some_iff.1 hj).1
    have hcj : cs'[j]? = some cs'[j] := List.getElem?_eq_getElem hjl
    simp only [g2, Option.bind_some, hcj, Option.getD_some]
   ·refine ⟨noCtx_owns _, ?_⟩
    have := g6 j _ hcj
    rw [← this]
    congr 1
    rw [ea]
    simp only [Addr.add]
    by_cases h0 : i * k = 0 <;> by_cases h1 : j = 0 <;> simp [h0, h1, Nat.add_assoc]
   ·exact g3.2 j c _ hj hcj
 ·obtain ⟨i, hi, rfl⟩ := List.getElem_of_mem hx
  obtain ⟨cs', a', g1, _, _, g4⟩ := hl2 i (by omega)
  rw [List.getElem?_eq_getElem hi] at g1
  simp only [Option.some.injEq] at g1
  rw [g1]
  exact g4
def cellKind : Option TypeDesc → Bool
 | some .bool | some (.int _) | some .string | some (.slice _) => true
 | _ => false
theorem opensVD_cell {α : Type} {t : TypeId} {f : α → D} {Q : α → Prop} (hk : cellKind (P.underlying t) = true) (h : OpensD P t (fun a => [f a]) Q) : OpensVD P t f Q := fun enc w spare held base v d ps hok ⟨fuel, hd⟩ => by
 have hc : v.cells.toList = [v] := by
  unfold Value.okWide at hok
  split at hok
  ·rename_i h1; rw [h1] at hk; cases hk
  ·rename_i h1; rw [h1] at hk; cases hk
  ·unfold Cell.okWide at hok
   split at hok
   all_goals first | (exfalso; rw [‹P.underlying t = _›] at hk; cases hk; done) | skip
   ·unfold Cell.ok at hok
    split at hok
    all_goals first | rfl | exact hok.elim | skip
 rw [hc] at hd
 obtain ⟨a, h1, h2⟩ := h enc w spare held fuel _ _ hd
 exact ⟨a, h1.2 0 _ _ rfl rfl, h2⟩
theorem opensLD_nil : OpensLD P [] (fun _ : Unit => []) (fun _ => True) := fun enc w spare held base vs ds ps _ h => by
 obtain ⟨rfl, rfl, _⟩ := trodAll_nil h
 exact ⟨(), ⟨rfl, fun j d u hd _ => by simp at hd⟩, trivial⟩
theorem opensLD_cons {α β : Type} {t : TypeId} {ts : List TypeId} {f : α → D} {Q : α → Prop} {f' : β → List D} {Q' : β → Prop} (h : OpensVD P t f Q) (h' : OpensLD P ts f' Q') :
  OpensLD P (t :: ts) (fun x : α × β => f x.1 :: f' x.2) (fun x => Q x.1 ∧ Q' x.2) := fun enc w spare held base vs ds ps hok hd => by
 obtain ⟨v, vs', d, ds', p, q, rfl, rfl, rfl, h1, h2⟩ := trodAll_cons hd
 obtain ⟨a, h3, h4⟩ := h enc w spare held base v d p (hok 0 t v rfl rfl) h1
 obtain ⟨b, h5, h6⟩ := h' enc w spare held base vs' ds' q (fun j t' v' ht hv => hok (j + 1) t' v' (by simpa using ht) (by simpa using hv)) h2
 refine ⟨(a, b), ⟨by simp [h5.1], fun j d' u hd' hu => ?_⟩, h4, h6⟩
 cases j with
 | zero => simp at hd' hu; subst hd'; subst hu; exact h3
 | succ j => exact h5.2 j d' u (by simpa using hd') (by simpa using hu)
theorem opens_int {t : TypeId} (ht : P.underlying t = some (.int .i64)) : Opens P t (fun n : Int => [.v (.int .i64 n)]) InR := ⟨opensD_int ht⟩
theorem opens_slice {α : Type} {t e : TypeId} (k : Nat) {f : α → List D} {Q : α → Prop} (ht : P.underlying t = some (.slice e)) (hk : P.cellsOf e = k) (hpos : 0 < k) (hf : ∀ a, (f a).length = k) (h : Opens P e f Q) :
  Opens P t (fun l : List α => [.sl k (l.map f)]) (fun l => l.length ≤ maxLen ∧ ∀ a ∈ l, Q a) := ⟨opensD_slice ht hk hpos hf (@Opens.run _ _ _ _ _ h)⟩
theorem opensV_cell {α : Type} {t : TypeId} {f : α → D} {Q : α → Prop} (hk : cellKind (P.underlying t) = true) (h : Opens P t (fun a => [f a]) Q) : OpensV P t f Q := ⟨opensVD_cell hk (@Opens.run _ _ _ _ _ h)⟩
theorem opensL_nil : OpensL P [] (fun _ : Unit => []) (fun _ => True) := ⟨opensLD_nil⟩
theorem opensL_cons {α β : Type} {t : TypeId} {ts : List TypeId} {f : α → D} {Q : α → Prop} {f' : β → List D} {Q' : β → Prop} (h : OpensV P t f Q) (h' : OpensL P ts f' Q') :
  OpensL P (t :: ts) (fun x : α × β => f x.1 :: f' x.2) (fun x => Q x.1 ∧ Q' x.2) := ⟨opensLD_cons (@OpensV.run _ _ _ _ _ h) (@OpensL.run _ _ _ _ _ h')⟩
theorem law_contract {α : Type} {f : FuncId} {fn : Func} {s : ChangeSpec} {again : Bool} {ts : List TypeId} {tb : TypeId} {g : α → List D} {Q : α → Prop} (hl : laidOutB P = true) (hts : fn.params.toList = ts) (htb : fn.resultTypes = #[tb]) (hub : P.underlying tb = some .bool)
  (hr : (ts.all fun t => P.readableRec t && decide (t < P.types.size)) = true) (hvars : s.vars = []) (hs : ∀ (H : Type) (ds : List (DataW H)), ds.length = ts.length → s.fn H ds = { results := [.lit (.bool true)], args := ds })
  (ho : OpensL P ts g Q) (hc : ∀ a, Q a → PCall P f (g a) fun r => r = .v (.bool true))
  {H : Type} (enc : TypeId × Value → H) (W : World) (base : Nat) (args : Array Value) (ds gs : List (DataW H)) (before : List MemPlace) (hg : GlobOk P noCtx W)
  (hval : ∀ (j : Nat) t v, fn.params[j]? = some t → args[j]? = some v → Value.okWide P W .any base t v)
  (hW : DataW.Whole enc P fn.params.toList s.vars false W args.toList ds gs before) :
  Calls P f args W fun e W' => ∃ v, e = .returned v ∧ s.post enc P fn false true false again W args v W' := by
 have hW' := hW
 obtain ⟨p, q, hA, hV, hpq, _⟩ := hW
 rw [hvars] at hV
 obtain ⟨rfl, rfl⟩ := trodVars_none hV
 rw [List.append_nil] at hpq
 subst hpq
 rw [hts] at hA
 obtain ⟨a, h1, h2⟩ := ho.run enc W _ _ base _ _ _ (fun j t v ht hv => hval j t v (by rw [← hts] at ht; simpa using ht) (by simpa using hv)) hA
 have hcall := (hc a h2).2 noCtx W args.toList (noCtx_ok W) hg h1
 rw [Array.toArray_toList] at hcall
 refine hcall.mono fun e W' hh => ?_
 obtain ⟨u, r, C', he, hr', hru, _, hext, _, hf⟩ := hh
 subst hr'
 have hu := hru.v_inv
 subst hu
 refine ⟨_, he, ?_⟩
 have hb : Below W.heap.size W W' := ⟨hf.os, hf.tape, hf.output, hf.size, fun k hk => hf.block k hk (fun h => by obtain ⟨_, _, _, h, _⟩ := h)⟩
 have hlen : ds.length = ts.length := trodAll_len hA
 have hfn : s.fn H (ds ++ []) = { results := [.lit (.bool true)], args := ds } := by rw [List.append_nil]; exact hs H ds hlen
 have hlt : ∀ x ∈ before, x.block < W.heap.size := fun x hx => hW'.lt x hx
 refine post_below (pa := before) (pv := []) hW' (fun b sp hd => ?_) (fun sp hsp => ?_) (fun sp _ => ?_) (by simp) hb ?_
 ·rw [hfn, htb]
  exact trodAll_cons_mk (p := []) (p' := []) (shut_bool hub true) trodAll_mk0
 ·rw [hfn, hts]
  exact trodAll_spare hl hb hr hA hlt hsp
 ·rw [hfn, hvars]; rfl
 ·exact ok_one htb rfl (okWide_bool_mk hub true)
end Go.Eng
set_option linter.unusedVariables false
set_option linter.unusedSimpArgs false
set_option linter.unusedSectionVars false
namespace Go.Eng
variable {P : Program} [HasGlob P] {n : Nat} {S : St} {Q : Exit → St → Prop}
end Go.Eng
set_option linter.unusedVariables false
set_option linter.unusedSimpArgs false
namespace Go.Proofs.YteekfnhhlcmcgaaGreatDoor
open Go.Eng Go.WideShapes Go.Wh Go.Ver
set_option maxRecDepth 100000
theorem op_int : Opens Tryz.prog 3 (fun n : Int => cI n) InR := opens_int Tryz.underlying3
theorem op_ints : Opens Tryz.prog 22 (fun l : List Int => [dIs l]) (fun l => l.length ≤ maxLen ∧ ∀ x ∈ l, InR x) := opens_slice 1 Tryz.underlying22 (by kernel_rfl) (by decide) (fun _ => rfl) op_int
theorem ov_ints : OpensV Tryz.prog 22 (fun l : List Int => dIs l) (fun l => l.length ≤ maxLen ∧ ∀ x ∈ l, InR x) := opensV_cell (by rw [Tryz.underlying22]; rfl) op_ints
end Go.Proofs.YteekfnhhlcmcgaaGreatDoor
set_option linter.unusedVariables false
set_option linter.unusedSimpArgs false
namespace Go.Proofs
open Go.Shelf
def Tryz.lays125_ren : Go.Shelf.Ren := ⟨fun | 125 => 126 | 128 => 176 | 129 => 177 | n => n, fun | 46 => 80 | 3 => 3 | 51 => 252 | 53 => 254 | 4 => 4 | 5 => 5 | 9 => 9 | n => n, fun | n => n⟩
theorem Tryz.lays125 : Go.Proofs.Lays.n125 Tryz.prog Tryz.lays125_ren := {
 mixed := by kernel_rfl
 f125 := Tryz.func126.trans (congrArg some (by kernel_rfl))
 f128 := Tryz.func176.trans (congrArg some (by kernel_rfl))
 f129 := Tryz.func177.trans (congrArg some (by kernel_rfl))
 t3 := Tryz.underlying3
 a3 := Tryz.isAgg3
 z3 := Tryz.sizeOf3
 v3 := Tryz.zeroValue3
 t4 := Tryz.underlying4
 a4 := Tryz.isAgg4
 z4 := Tryz.sizeOf4
 v4 := Tryz.zeroValue4
 t5 := Tryz.underlying5
 a5 := Tryz.isAgg5
 z5 := Tryz.sizeOf5
 v5 := Tryz.zeroValue5
 t9 := Tryz.underlying9
 a9 := Tryz.isAgg9
 z9 := Tryz.sizeOf9
 v9 := Tryz.zeroValue9
 t46 := Tryz.underlying80
 a46 := Tryz.isAgg80
 z46 := Tryz.sizeOf80
 v46 := Tryz.zeroValue80
 t51 := Tryz.underlying252
 a51 := Tryz.isAgg252
 z51 := Tryz.sizeOf252
 v51 := Tryz.zeroValue252
 t53 := Tryz.underlying254
 a53 := Tryz.isAgg254
 z53 := Tryz.sizeOf254
 v53 := Tryz.zeroValue254 }
theorem Tryz.bits_Len (x : Int) (w : World) (h0 : 0 ≤ x) (h1 : x ≤ 18446744073709551615) :
  Calls Tryz.prog 126 #[.int .u64 x] w fun e w' => e = .returned (.int .i64 (Lib.bitLen x.toNat)) ∧ w' = w := Any.bits_Len Tryz.lays125 x w h0 h1
def Tryz.lays106_ren : Go.Shelf.Ren := ⟨fun | 106 => 218 | 213 => 253 | 265 => 287 | n => n, fun | 9 => 9 | 3 => 3 | n => n, fun | n => n⟩
theorem Tryz.lays106 : Go.Proofs.Lays.n106 Tryz.prog Tryz.lays106_ren := {
 mixed := by kernel_rfl
 f106 := Tryz.func218.trans (congrArg some (by kernel_rfl))
 f213 := Tryz.func253.trans (congrArg some (by kernel_rfl))
 f265 := Tryz.func287.trans (congrArg some (by kernel_rfl))
 t3 := Tryz.underlying3
 a3 := Tryz.isAgg3
 z3 := Tryz.sizeOf3
 v3 := Tryz.zeroValue3
 t9 := Tryz.underlying9
 a9 := Tryz.isAgg9
 z9 := Tryz.sizeOf9
 v9 := Tryz.zeroValue9 }
open Go.RowKit in
theorem Tryz.strings_Compare (a b : ByteArray) (w : World) :
  Calls Tryz.prog 218 #[.string a, .string b] w fun e w' => e = .returned (.int .i64 (Lib.compareBytes a.data.toList b.data.toList)) ∧ w' = w := Any.strings_Compare Tryz.lays106 a b w
def Tryz.lays122_ren : Go.Shelf.Ren := ⟨fun | 122 => 219 | 215 => 254 | n => n, fun | 3 => 3 | 4 => 4 | n => n, fun | n => n⟩
theorem Tryz.lays122 : Go.Proofs.Lays.n122 Tryz.prog Tryz.lays122_ren := {
 mixed := by kernel_rfl
 f122 := Tryz.func219.trans (congrArg some (by kernel_rfl))
 f215 := Tryz.func254.trans (congrArg some (by kernel_rfl))
 t3 := Tryz.underlying3
 a3 := Tryz.isAgg3
 z3 := Tryz.sizeOf3
 v3 := Tryz.zeroValue3
 t4 := Tryz.underlying4
 a4 := Tryz.isAgg4
 z4 := Tryz.sizeOf4
 v4 := Tryz.zeroValue4 }
open Go.RowKit in
theorem Tryz.cmp_Compare_int (x y : Int) (w : World) :
  Calls Tryz.prog 219 #[.int .i64 x, .int .i64 y] w fun e w' => e = .returned (.int .i64 (Lib.compareInt x y)) ∧ w' = w := Any.cmp_Compare_int Tryz.lays122 x y w
end Go.Proofs
set_option linter.unusedVariables false
set_option linter.unusedSimpArgs false
namespace Go.Proofs.YteekfnhhlcmcgaaGreatDoor
open Go.Eng Go.RowKit Go.Sort Go.Wh Go.Ver
set_option maxRecDepth 20000
attribute [local irreducible] AG CallA CallT AWp PCall ACall AgC
theorem scmp_spec (a b : List UInt8) : PCall Tryz.prog 218 [dS a, dS b] fun r => r = dI (Lib.compareBytes a b) := by
 refine pcall_below ⟨_, Tryz.func218, rfl, rfl⟩ fun C w us hc hg hr => ?_
 obtain rfl := repL_v (us := [.string ⟨a.toArray⟩, .string ⟨b.toArray⟩]) hr
 refine (Tryz.strings_Compare ⟨a.toArray⟩ ⟨b.toArray⟩ w).mono ?_
 rintro e w' ⟨rfl, rfl⟩
 exact ⟨_, _, rfl, by simp, .v _, Below.refl _ _⟩
theorem icmp_spec (x y : Int) : PCall Tryz.prog 219 [dI x, dI y] fun r => r = dI (Lib.compareInt x y) := by
 refine pcall_below ⟨_, Tryz.func219, rfl, rfl⟩ fun C w us hc hg hr => ?_
 obtain rfl := repL_v (us := [.int .i64 x, .int .i64 y]) hr
 refine (Tryz.cmp_Compare_int x y w).mono ?_
 rintro e w' ⟨rfl, rfl⟩
 exact ⟨_, _, rfl, rfl, .v _, Below.refl _ _⟩
end Go.Proofs.YteekfnhhlcmcgaaGreatDoor
set_option linter.unusedVariables false
set_option linter.unusedSimpArgs false
namespace Go.Proofs.YteekfnhhlcmcgaaGreatDoor
open Go.Eng Go.Wh Go.Ver
set_option maxRecDepth 20000
attribute [local irreducible] AG CallA CallT AWp PCall ACall AgC
theorem or_spec (x y : Int) : PCall Tryz.prog 217 [.sl 1 [[dI x], [dI y]]] fun r => r = dI (if x ≠ 0 then x else y) := by 
 refine pcall_of Tryz.func217 rfl rfl Tryz.ntmps217 (rs := [.tmp 2]) (tys := [3]) rfl rfl (by simp) ?_
 (refine awp_sr fun Y Yh => ?_; simp [go_sem]; ((repeat' (first|(refine ag_x ?_;simp [go_sem])|intro _|apply And.intro|(apply Yh;clear Yh Y)));all_goals first|apply Hold.mk|omega|assumption|skip))
 (refine awp_sr fun Y Yh => ?_; simp [go_sem]; ((repeat' (first|(refine ag_x ?_;simp [go_sem])|intro _|apply And.intro|(apply Yh;clear Yh Y)));all_goals first|apply Hold.mk|omega|assumption|skip))
 refine awp_seq_k fun K1 hK1 => ?_
 (refine awp_sr fun Y Yh => ?_; simp [go_sem]; ((repeat' (first|(refine ag_x ?_;simp [go_sem])|intro _|apply And.intro|(apply Yh;clear Yh Y)));all_goals first|apply Hold.mk|omega|assumption|skip))
 refine awp_block ?_
 refine awp_loop (σ := Nat) (fun i => ⟨[(3, dI 0), (6, .sl 1 [[dI x], [dI y]]), (7, dI 2), (8, dI i)], []⟩) (fun i => i ≤ 2 ∧ (0 < i → x = 0) ∧ (1 < i → y = 0)) (fun i => 2 - i) 0 ?_ ?_ ?_
 ·(refine cov_of ?_ ?_ <;> simp [go_sem])
 ·exact ⟨by omega, fun h => by omega, fun h => by omega⟩
 rintro i ⟨hi, h1, h2⟩
 (refine awp_sr fun Y Yh => ?_; simp [go_sem]; ((repeat' (first|(refine ag_x ?_;simp [go_sem])|intro _|apply And.intro|(apply Yh;clear Yh Y)));all_goals first|apply Hold.mk|omega|assumption|skip))
 refine awp_seq_k fun K2 hK2 => ?_
 (refine awp_if fun T F hT hF => ?_; simp [go_sem]; refine BR.intro (fun h3 => hT ?_) (fun h3 => hF ?_); all_goals clear hT hF T F; try simp at h3) 
 ·refine awp_skip ?_
  refine hK2 _ ?_; clear hK2
  refine awp_seq_k fun K4 hK4 => ?_
  refine awp_block ?_
  obtain ⟨z, hz, hzz⟩ : ∃ z, ([[dI x], [dI y]] : List (List D))[i]? = some [dI z] ∧ ((i = 0 ∧ z = x) ∨ (i = 1 ∧ z = y)) := by
   match i, h3 with
   | 0, _ => exact ⟨x, rfl, .inl ⟨rfl, rfl⟩⟩
   | 1, _ => exact ⟨y, rfl, .inr ⟨rfl, rfl⟩⟩
   | n + 2, h => exact absurd h (by omega)
  (refine awp_sr fun Y Yh => ?_; simp [go_sem, hz]; ((repeat' (first|(refine ag_x ?_;simp [go_sem, hz])|intro _|apply And.intro|(apply Yh;clear Yh Y)));all_goals first|apply Hold.mk|omega|assumption|skip))
  (refine awp_sr fun Y Yh => ?_; simp [go_sem]; ((repeat' (first|(refine ag_x ?_;simp [go_sem])|intro _|apply And.intro|(apply Yh;clear Yh Y)));all_goals first|apply Hold.mk|omega|assumption|skip))
  (refine awp_if fun T F hT hF => ?_; simp [go_sem]; refine BR.intro (fun h5 => hT ?_) (fun h5 => hF ?_); all_goals clear hT hF T F; try simp at h5) 
  ·(refine awp_sr fun Y Yh => ?_; simp [go_sem]; ((repeat' (first|(refine ag_x ?_;simp [go_sem])|intro _|apply And.intro|(apply Yh;clear Yh Y)));all_goals first|apply Hold.mk|omega|assumption|skip))
   (refine awp_ret ?_; simp [go_sem])
   rcases hzz with ⟨rfl, rfl⟩ | ⟨rfl, rfl⟩
   ·rw [if_neg h5]
   ·rw [if_pos (h1 (by omega))]
  ·refine awp_skip ?_
   refine hK4 _ ?_; clear hK4
   (refine awp_r fun Y Yh => ?_; simp [go_sem]; ((repeat' (first|(refine ag_x ?_;simp [go_sem])|intro _|apply And.intro|(apply Yh;clear Yh Y)));all_goals first|apply Hold.mk|omega|assumption|skip))
   refine ⟨i + 1, ?_, ?_, by omega⟩
   ·(refine cov_of ?_ ?_ <;> simp [go_sem])
   ·rcases hzz with ⟨rfl, rfl⟩ | ⟨rfl, rfl⟩
    ·exact ⟨by omega, fun _ => h5, fun h => by omega⟩
    ·exact ⟨by omega, fun _ => h1 (by omega), fun _ => h5⟩
 ·refine awp_exit ?_
  simp only [go_sem]
  refine hK1 _ ?_; clear hK1
  (refine awp_sr fun Y Yh => ?_; simp [go_sem]; ((repeat' (first|(refine ag_x ?_;simp [go_sem])|intro _|apply And.intro|(apply Yh;clear Yh Y)));all_goals first|apply Hold.mk|omega|assumption|skip))
  (refine awp_ret ?_; simp [go_sem])
  rw [if_pos (h1 (by omega)), h2 (by omega)]
theorem compare_spec (a b : List Seg) (ha : a.length ≤ 1000000) (hb : b.length ≤ 1000000) : PCall Tryz.prog 184 [dGs a, dGs b] fun r => r = dI (cmpV a b) := by 
 refine pcall_of Tryz.func184 rfl rfl Tryz.ntmps184 (rs := [.tmp 4]) (tys := [3]) rfl rfl (by simp) ?_
 have hmx : (if a.length < b.length then (b.length : Int) else (a.length : Int)) = ((max a.length b.length : Nat) : Int) := by split <;> omega
 have hN : cmpN (max a.length b.length - 0) (a.drop 0) (b.drop 0) = cmpV a b := rfl
 have hna : ∀ i, ¬ i < a.length → atV a i = z0s := fun i h => at_past (by omega)
 have hnb : ∀ i, ¬ i < b.length → atV b i = z0s := fun i h => at_past (by omega)
 have hstep := fun i => @cmpN_drop a b (max a.length b.length) i
 have hle1 : a.length ≤ max a.length b.length := by omega
 have hle2 : b.length ≤ max a.length b.length := by omega
 have hle3 : max a.length b.length ≤ 1000000 := by omega
 have hz : ∀ i, max a.length b.length ≤ i → cmpN (max a.length b.length - i) (a.drop i) (b.drop i) = 0 := fun i h => by
  rw [Nat.sub_eq_zero_of_le h]; rfl
 generalize cmpV a b = res at *
 (refine awp_sr fun Y Yh => ?_; simp [go_sem]; ((repeat' (first|(refine ag_x ?_;simp [go_sem])|intro _|apply And.intro|(apply Yh;clear Yh Y)));all_goals first|apply Hold.mk|omega|assumption|skip))
 refine awp_seq_k fun K1 hK1 => ?_
 (refine awp_sr fun Y Yh => ?_; simp [go_sem, hmx]; ((repeat' (first|(refine ag_x ?_;simp [go_sem, hmx])|intro _|apply And.intro|(apply Yh;clear Yh Y)));all_goals first|apply Hold.mk|omega|assumption|skip))
 generalize max a.length b.length = n at *
 refine awp_block ?_
 refine awp_loop (σ := Nat) (fun i => ⟨[(0, dGs a), (1, dGs b), (13, dI n), (14, dI i)], []⟩) (fun i => i ≤ n ∧ cmpN (n - i) (a.drop i) (b.drop i) = res) (fun i => n - i) 0 ?_ ?_ ?_
 ·(refine cov_of ?_ ?_ <;> simp [go_sem])
 ·exact ⟨by omega, hN⟩
 rintro i ⟨hi, hc⟩
 (refine awp_sr fun Y Yh => ?_; simp [go_sem]; ((repeat' (first|(refine ag_x ?_;simp [go_sem])|intro _|apply And.intro|(apply Yh;clear Yh Y)));all_goals first|apply Hold.mk|omega|assumption|skip))
 refine awp_seq_k fun K2 hK2 => ?_
 (refine awp_if fun T F hT hF => ?_; simp [go_sem]; refine BR.intro (fun h3 => hT ?_) (fun h3 => hF ?_); all_goals clear hT hF T F; try simp at h3) 
 ·refine awp_skip ?_
  refine hK2 _ ?_; clear hK2
  have hst := hstep i hc (by omega)
  refine awp_seq_k fun K4 hK4 => ?_
  refine awp_block ?_
  (refine awp_sr fun Y Yh => ?_; simp [go_sem]; ((repeat' (first|(refine ag_x ?_;simp [go_sem])|intro _|apply And.intro|(apply Yh;clear Yh Y)));all_goals first|apply Hold.mk|omega|assumption|skip))
  (refine awp_sr fun Y Yh => ?_; simp [go_sem]; ((repeat' (first|(refine ag_x ?_;simp [go_sem])|intro _|apply And.intro|(apply Yh;clear Yh Y)));all_goals first|apply Hold.mk|omega|assumption|skip))
  rename_i g6 g7
  refine awp_seq_k fun K5 hK5 => ?_
  have tl5 : ∀ S', Cov S' ⟨[(0, dGs a), (1, dGs b), (5, dI i), (6, .ptr 6 g6 0), (7, .ptr 7 g7 0), (13, dI n), (14, dI i)], [(6, g6, .box (cG (atV a i))), (7, g7, .box [dS [], dI 0])]⟩ → K5 S' := fun S' hS => by
   refine hK5 _ ?_; clear hK5
   refine awp_cov hS ?_; clear hS
   refine awp_seq_k fun K6 hK6 => ?_
   have tl6 : ∀ S', Cov S' ⟨[(0, dGs a), (1, dGs b), (6, .ptr 6 g6 0), (7, .ptr 7 g7 0), (13, dI n), (14, dI i)], [(6, g6, .box (cG (atV a i))), (7, g7, .box (cG (atV b i)))]⟩ → K6 S' := fun S' hS => by
    refine hK6 _ ?_
    refine awp_cov hS ?_; clear hS
    generalize atV a i = x at *
    generalize atV b i = y at *
    unfold seg2 at hst
    refine awp_seq_k fun K7 hK7 => ?_
    refine awp_block ?_
    (refine awp_sr fun Y Yh => ?_; simp [go_sem]; ((repeat' (first|(refine ag_x ?_;simp [go_sem])|intro _|apply And.intro|(apply Yh;clear Yh Y)));all_goals first|apply Hold.mk|omega|assumption|skip))
    (refine awp_if fun T F hT hF => ?_; simp [go_sem]; refine BR.intro (fun h8 => hT ?_) (fun h8 => hF ?_); all_goals clear hT hF T F; try simp at h8) 
    ·(refine awp_sr fun Y Yh => ?_; simp [go_sem]; ((repeat' (first|(refine ag_x ?_;simp [go_sem])|intro _|apply And.intro|(apply Yh;clear Yh Y)));all_goals first|apply Hold.mk|omega|assumption|skip))
     (refine awp_ret ?_; simp [go_sem])
     rw [if_pos h8] at hst
     exact hst.1 (by omega)
    ·rw [if_neg (fun q => h8 q.1 q.2)] at hst
     (refine awp_sr fun Y Yh => ?_; simp [go_sem]; ((repeat' (first|(refine ag_x ?_;simp [go_sem])|intro _|apply And.intro|(apply Yh;clear Yh Y)));all_goals first|apply Hold.mk|omega|assumption|skip))
     (refine awp_if fun T F hT hF => ?_; simp [go_sem]; refine BR.intro (fun h9 => hT ?_) (fun h9 => hF ?_); all_goals clear hT hF T F; try simp at h9) 
     ·(refine awp_sr fun Y Yh => ?_; simp [go_sem]; ((repeat' (first|(refine ag_x ?_;simp [go_sem])|intro _|apply And.intro|(apply Yh;clear Yh Y)));all_goals first|apply Hold.mk|omega|assumption|skip))
      (refine awp_ret ?_; simp [go_sem])
      rw [if_pos h9] at hst
      exact hst.1 (by omega)
     ·rw [if_neg (fun q => q.2 (h9 q.1))] at hst
      refine awp_skip ?_
      refine hK7 _ ?_; clear hK7
      ((refine awp_dr (.qs [0, 2, 5, 7, 1, 3, 6, 8] (.kp 4 (.kp 9 (.kp 10 (.kp 11 (.qs [12] (.nil))))))) (by kernel_rfl) ?_ ?_ ?_ ?_); (kernel_rfl); (exact (by decide +kernel)); (kernel_rfl); intro Y Yh; ((repeat' (first|(refine ag_x ?_;simp [go_sem])|refine adr_nil ?_|((first|refine adr_qs fun Y Yh=>?_|refine adr_y fun Y Yh=>?_);simp [go_sem])|intro _|apply And.intro|(apply Yh;clear Yh Y)));all_goals first|apply Hold.mk|omega|assumption|skip))
      ((try refine CallT.toA ?_); refine callT_m (.inl ⟨rfl,rfl⟩) (by simp [go_sem]) ?_; intro args ha; simp [go_sem] at ha; subst ha; refine ⟨_, (scmp_spec x.1 y.1), ?_⟩; rintro _ rfl; simp [go_sem]; ((repeat' (first|(refine ag_x ?_;simp [go_sem])|refine adr_nil ?_|((first|refine adr_qs fun Y Yh=>?_|refine adr_y fun Y Yh=>?_);simp [go_sem])|intro _|apply And.intro|(apply Yh;clear Yh Y)));all_goals first|apply Hold.mk|omega|assumption|skip))
      ((try refine CallT.toA ?_); refine callT_m (.inl ⟨rfl,rfl⟩) (by simp [go_sem]) ?_; intro args ha; simp [go_sem] at ha; subst ha; refine ⟨_, (icmp_spec x.2 y.2), ?_⟩; rintro _ rfl; simp [go_sem]; ((repeat' (first|(refine ag_x ?_;simp [go_sem])|refine adr_nil ?_|((first|refine adr_qs fun Y Yh=>?_|refine adr_y fun Y Yh=>?_);simp [go_sem])|intro _|apply And.intro|(apply Yh;clear Yh Y)));all_goals first|apply Hold.mk|omega|assumption|skip))
      ((try refine CallT.toA ?_); refine callT_f (.inl ⟨rfl,rfl⟩) ?_; intro args ha; simp [go_sem] at ha; subst ha; refine ⟨_, (or_spec (Lib.compareBytes x.1 y.1) (Lib.compareInt x.2 y.2)), ?_⟩; rintro _ rfl; refine ⟨rfl, ?_⟩; simp [go_sem]; ((repeat' (first|(refine ag_x ?_;simp [go_sem])|refine adr_nil ?_|((first|refine adr_qs fun Y Yh=>?_|refine adr_y fun Y Yh=>?_);simp [go_sem])|intro _|apply And.intro|(apply Yh;clear Yh Y)));all_goals first|apply Hold.mk|omega|assumption|skip))
      (refine awp_sr fun Y Yh => ?_; simp [go_sem]; ((repeat' (first|(refine ag_x ?_;simp [go_sem])|intro _|apply And.intro|(apply Yh;clear Yh Y)));all_goals first|apply Hold.mk|omega|assumption|skip))
      generalize Lib.compareBytes x.fst y.fst = u at *
      generalize Lib.compareInt x.snd y.snd = v at *
      (refine awp_if fun T F hT hF => ?_; simp [go_sem]; refine BR.intro (fun h10 => hT ?_) (fun h10 => hF ?_); all_goals clear hT hF T F; try simp at h10) 
      ·(refine awp_sr fun Y Yh => ?_; simp [go_sem]; ((repeat' (first|(refine ag_x ?_;simp [go_sem])|intro _|apply And.intro|(apply Yh;clear Yh Y)));all_goals first|apply Hold.mk|omega|assumption|skip))
       (refine awp_ret ?_; simp [go_sem])
       simpa using hst.1 (by simpa using h10)
      ·refine awp_skip ?_
       refine hK4 _ ?_; clear hK4
       (refine awp_r fun Y Yh => ?_; simp [go_sem]; ((repeat' (first|(refine ag_x ?_;simp [go_sem])|intro _|apply And.intro|(apply Yh;clear Yh Y)));all_goals first|apply Hold.mk|omega|assumption|skip))
       refine ⟨i + 1, ?_, ⟨by omega, hst.2 (by simpa using h10)⟩, by omega⟩
       (refine cov_of ?_ ?_ <;> simp [go_sem])
   (refine awp_sr fun Y Yh => ?_; simp [go_sem]; ((repeat' (first|(refine ag_x ?_;simp [go_sem])|intro _|apply And.intro|(apply Yh;clear Yh Y)));all_goals first|apply Hold.mk|omega|assumption|skip))
   (refine awp_if fun T F hT hF => ?_; simp [go_sem]; refine BR.intro (fun h11 => hT ?_) (fun h11 => hF ?_); all_goals clear hT hF T F; try simp at h11) 
   ·obtain ⟨y, hy⟩ : ∃ y, b[i]? = some y := ⟨_, List.getElem?_eq_getElem (by omega)⟩
    have ey : atV b i = y := by unfold atV; rw [hy]; rfl
    (refine awp_r fun Y Yh => ?_; simp [go_sem, hy]; ((repeat' (first|(refine ag_x ?_;simp [go_sem, hy])|intro _|apply And.intro|(apply Yh;clear Yh Y)));all_goals first|apply Hold.mk|omega|assumption|skip))
    refine tl6 _ ?_
    rw [ey]
    (refine cov_of ?_ ?_ <;> simp [go_sem])
   ·refine awp_skip ?_
    refine tl6 _ ?_
    rw [hnb i (by omega)]
    (refine cov_of ?_ ?_ <;> simp [go_sem])
  clear hK5
  (refine awp_sr fun Y Yh => ?_; simp [go_sem]; ((repeat' (first|(refine ag_x ?_;simp [go_sem])|intro _|apply And.intro|(apply Yh;clear Yh Y)));all_goals first|apply Hold.mk|omega|assumption|skip))
  (refine awp_if fun T F hT hF => ?_; simp [go_sem]; refine BR.intro (fun h12 => hT ?_) (fun h12 => hF ?_); all_goals clear hT hF T F; try simp at h12) 
  ·obtain ⟨x, hx⟩ : ∃ x, a[i]? = some x := ⟨_, List.getElem?_eq_getElem (by omega)⟩
   have ex : atV a i = x := by unfold atV; rw [hx]; rfl
   (refine awp_r fun Y Yh => ?_; simp [go_sem, hx]; ((repeat' (first|(refine ag_x ?_;simp [go_sem, hx])|intro _|apply And.intro|(apply Yh;clear Yh Y)));all_goals first|apply Hold.mk|omega|assumption|skip))
   refine tl5 _ ?_
   rw [ex]
   (refine cov_of ?_ ?_ <;> simp [go_sem])
  ·refine awp_skip ?_
   refine tl5 _ ?_
   rw [hna i (by omega)]
   (refine cov_of ?_ ?_ <;> simp [go_sem])
 ·refine awp_exit ?_
  simp only [go_sem]
  refine hK1 _ ?_; clear hK1
  (refine awp_sr fun Y Yh => ?_; simp [go_sem]; ((repeat' (first|(refine ag_x ?_;simp [go_sem])|intro _|apply And.intro|(apply Yh;clear Yh Y)));all_goals first|apply Hold.mk|omega|assumption|skip))
  (refine awp_ret ?_; simp [go_sem])
  rw [← hc, hz i (by omega)]
end Go.Proofs.YteekfnhhlcmcgaaGreatDoor
set_option linter.unusedVariables false
set_option linter.unusedSimpArgs false
namespace Go.Proofs.YteekfnhhlcmcgaaGreatDoor
open Go.Eng Go.Wh Go.Ver
set_option maxRecDepth 20000
attribute [local irreducible] AG CallA CallT AWp PCall ACall AgC
theorem fIx_any {α : Type} (p : α → Bool) (l : List α) : decide (0 ≤ fIx p l) = l.any p := by
 unfold fIx; cases l.any p <;> simp
theorem indexG_spec (l : List Seg) (f : Nat) (p : Seg → Bool) (hp : ∀ x ∈ l, PCall Tryz.prog f [dG x] fun r => r = dB (p x)) (hl : l.length ≤ 1000000) : PCall Tryz.prog 281 [dGs l, .v (.func (.func f) #[] #[])] fun r => r = dI (fIx p l) := by 
 refine pcall_of Tryz.func281 rfl rfl Tryz.ntmps281 (rs := [.tmp 4]) (tys := [3]) rfl rfl (by simp) ?_
 (refine awp_sr fun Y Yh => ?_; simp [go_sem]; ((repeat' (first|(refine ag_x ?_;simp [go_sem])|intro _|apply And.intro|(apply Yh;clear Yh Y)));all_goals first|apply Hold.mk|omega|assumption|skip))
 refine awp_seq_k fun K1 hK1 => ?_
 (refine awp_sr fun Y Yh => ?_; simp [go_sem]; ((repeat' (first|(refine ag_x ?_;simp [go_sem])|intro _|apply And.intro|(apply Yh;clear Yh Y)));all_goals first|apply Hold.mk|omega|assumption|skip))
 refine awp_block ?_
 refine awp_loop (σ := Nat) (fun i => ⟨[(0, dGs l), (1, .v (.func (.func f) #[] #[])), (7, dI l.length), (8, dI i)], []⟩) (fun i => i ≤ l.length ∧ (l.take i).any p = false) (fun i => l.length - i) 0 (by (refine cov_of ?_ ?_ <;> simp [go_sem])) (by simp) ?_
 rintro i ⟨hi, hany⟩
 (refine awp_sr fun Y Yh => ?_; simp [go_sem]; ((repeat' (first|(refine ag_x ?_;simp [go_sem])|intro _|apply And.intro|(apply Yh;clear Yh Y)));all_goals first|apply Hold.mk|omega|assumption|skip))
 refine awp_seq_k fun K2 hK2 => ?_
 (refine awp_if fun T F hT hF => ?_; simp [go_sem]; refine BR.intro (fun h3 => hT ?_) (fun h3 => hF ?_); all_goals clear hT hF T F; try simp at h3) 
 ·refine awp_skip ?_
  refine hK2 _ ?_; clear hK2
  obtain ⟨x, hx⟩ : ∃ x, l[i]? = some x := ⟨_, List.getElem?_eq_getElem (by omega)⟩
  refine awp_seq_k fun K4 hK4 => ?_
  refine awp_block ?_
  (refine awp_sr fun Y Yh => ?_; simp [go_sem]; ((repeat' (first|(refine ag_x ?_;simp [go_sem])|intro _|apply And.intro|(apply Yh;clear Yh Y)));all_goals first|apply Hold.mk|omega|assumption|skip))
  (refine awp_sr fun Y Yh => ?_; simp [go_sem, hx]; ((repeat' (first|(refine ag_x ?_;simp [go_sem, hx])|intro _|apply And.intro|(apply Yh;clear Yh Y)));all_goals first|apply Hold.mk|omega|assumption|skip))
  ((try refine CallT.toA ?_); refine callT_m (by first|exact .inl ⟨rfl,rfl⟩|exact .inr rfl) (by simp [go_sem]) ?_; intro args ha; simp [go_sem] at ha; subst ha; refine ⟨_, (hp x (List.mem_of_getElem? hx)), ?_⟩; rintro _ rfl; simp [go_sem]; ((repeat' (first|(refine ag_x ?_;simp [go_sem])|intro _|apply And.intro|(apply Yh;clear Yh Y)));all_goals first|apply Hold.mk|omega|assumption|skip))
  (refine awp_if fun T F hT hF => ?_; simp [go_sem]; refine BR.intro (fun h5 => hT ?_) (fun h5 => hF ?_); all_goals clear hT hF T F; try simp at h5) 
  ·(refine awp_sr fun Y Yh => ?_; simp [go_sem]; ((repeat' (first|(refine ag_x ?_;simp [go_sem])|intro _|apply And.intro|(apply Yh;clear Yh Y)));all_goals first|apply Hold.mk|omega|assumption|skip))
   (refine awp_ret ?_; simp [go_sem])
   rw [fIx_at hany hx h5]
  ·refine awp_skip ?_
   refine hK4 _ ?_; clear hK4
   (refine awp_r fun Y Yh => ?_; simp [go_sem]; ((repeat' (first|(refine ag_x ?_;simp [go_sem])|intro _|apply And.intro|(apply Yh;clear Yh Y)));all_goals first|apply Hold.mk|omega|assumption|skip))
   refine ⟨i + 1, ?_, ⟨by omega, take_anyG hany hx (by simp [h5])⟩, by omega⟩
   (refine cov_of ?_ ?_ <;> simp [go_sem])
 ·refine awp_exit ?_
  simp only [go_sem]
  refine hK1 _ ?_; clear hK1
  (refine awp_sr fun Y Yh => ?_; simp [go_sem]; ((repeat' (first|(refine ag_x ?_;simp [go_sem])|intro _|apply And.intro|(apply Yh;clear Yh Y)));all_goals first|apply Hold.mk|omega|assumption|skip))
  (refine awp_ret ?_; simp [go_sem])
  have : i = l.length := by omega
  subst this
  rw [List.take_length] at hany
  rw [fIx_none hany]
theorem words1_spec (x : Seg) : PCall Tryz.prog 282 [dG x] fun r => r = dB (decide (x.1 ≠ [])) := by
 refine pcall_of Tryz.func282 rfl rfl Tryz.ntmps282 (rs := [.tmp 2]) (tys := [4]) rfl rfl (by simp) ?_
 (refine awp_sr fun Y Yh => ?_; simp [go_sem]; ((repeat' (first|(refine ag_x ?_;simp [go_sem])|intro _|apply And.intro|(apply Yh;clear Yh Y)));all_goals first|apply Hold.mk|omega|assumption|skip))
 (refine awp_sr fun Y Yh => ?_; simp [go_sem]; ((repeat' (first|(refine ag_x ?_;simp [go_sem])|intro _|apply And.intro|(apply Yh;clear Yh Y)));all_goals first|apply Hold.mk|omega|assumption|skip))
 (refine awp_ret ?_; simp [go_sem])
 cases x.fst <;> simp
theorem words_spec (l : List Seg) (hl : l.length ≤ 1000000) : PCall Tryz.prog 248 [dGs l] fun r => r = dI (wordsV l) := by 
 refine pcall_of Tryz.func248 rfl rfl Tryz.ntmps248 (rs := [.tmp 2]) (tys := [3]) rfl rfl (by simp) ?_
 have I := indexG_spec l 282 (fun s => decide (s.1 ≠ [])) (fun x _ => words1_spec x) hl
 have e := words_ix l
 generalize fIx (fun s : Seg => decide (s.1 ≠ [])) l = k at *
 (refine awp_sr fun Y Yh => ?_; simp [go_sem]; ((repeat' (first|(refine ag_x ?_;simp [go_sem])|intro _|apply And.intro|(apply Yh;clear Yh Y)));all_goals first|apply Hold.mk|omega|assumption|skip))
 refine awp_seq_k fun K1 hK1 => ?_
 (refine awp_sr fun Y Yh => ?_; simp [go_sem]; ((repeat' (first|(refine ag_x ?_;simp [go_sem])|intro _|apply And.intro|(apply Yh;clear Yh Y)));all_goals first|apply Hold.mk|omega|assumption|skip))
 ((try refine CallT.toA ?_); refine callT_m (.inl ⟨rfl,rfl⟩) (by simp [go_sem]) ?_; intro args ha; simp [go_sem] at ha; subst ha; refine ⟨_, I, ?_⟩; rintro _ rfl; simp [go_sem]; ((repeat' (first|(refine ag_x ?_;simp [go_sem])|intro _|apply And.intro|(apply Yh;clear Yh Y)));all_goals first|apply Hold.mk|omega|assumption|skip))
 (refine awp_sr fun Y Yh => ?_; simp [go_sem]; ((repeat' (first|(refine ag_x ?_;simp [go_sem])|intro _|apply And.intro|(apply Yh;clear Yh Y)));all_goals first|apply Hold.mk|omega|assumption|skip))
 (refine awp_if fun T F hT hF => ?_; simp [go_sem]; refine BR.intro (fun h2 => hT ?_) (fun h2 => hF ?_); all_goals clear hT hF T F; try simp at h2) 
 ·(refine awp_sr fun Y Yh => ?_; simp [go_sem]; ((repeat' (first|(refine ag_x ?_;simp [go_sem])|intro _|apply And.intro|(apply Yh;clear Yh Y)));all_goals first|apply Hold.mk|omega|assumption|skip))
  (refine awp_ret ?_; simp [go_sem, e.1 h2])
 ·refine awp_skip ?_
  refine hK1 _ ?_; clear hK1
  (refine awp_sr fun Y Yh => ?_; simp [go_sem]; ((repeat' (first|(refine ag_x ?_;simp [go_sem])|intro _|apply And.intro|(apply Yh;clear Yh Y)));all_goals first|apply Hold.mk|omega|assumption|skip))
  (refine awp_ret ?_; simp [go_sem, e.2 (by omega)])
end Go.Proofs.YteekfnhhlcmcgaaGreatDoor
set_option linter.unusedVariables false
set_option linter.unusedSimpArgs false
namespace Go.Proofs.YteekfnhhlcmcgaaGreatDoor
open Go.Eng Go.Wh Go.Ver
set_option maxRecDepth 20000
attribute [local irreducible] AG CallA CallT AWp PCall ACall AgC
theorem cloneG_spec (l : List Seg) (hl : l.length ≤ 1000000) (h0 : l ≠ []) : ACall Tryz.prog 303 [dGs l] [] [800000] fun ps r => ∃ g, ps = [(g, .row 288 2 (l.map cG))] ∧ r = .own 800000 g := by
 refine acall_of Tryz.func303 rfl rfl Tryz.ntmps303 (rs := [.tmp 2]) (tys := [240]) rfl rfl (by simp) (by simp) ?_
 (refine awp_sr fun Y Yh => ?_; simp [go_sem]; ((repeat' (first|(refine ag_x ?_;simp [go_sem])|intro _|apply And.intro|(apply Yh;clear Yh Y)));all_goals first|apply Hold.mk|omega|assumption|skip))
 refine awp_seq_k fun K1 hK1 => ?_
 (refine awp_sr fun Y Yh => ?_; simp [go_sem]; ((repeat' (first|(refine ag_x ?_;simp [go_sem])|intro _|apply And.intro|(apply Yh;clear Yh Y)));all_goals first|apply Hold.mk|omega|assumption|skip))
 all_goals first | (rename_i hn; exact absurd hn h0) | skip
 refine awp_if fun T F hT hF => ?_
 simp [go_sem]
 refine hF ?_
 refine awp_skip ?_
 refine hK1 _ ?_; clear hK1
 (refine awp_sr fun Y Yh => ?_; simp [go_sem]; ((repeat' (first|(refine ag_x ?_;simp [go_sem])|intro _|apply And.intro|(apply Yh;clear Yh Y)));all_goals first|apply Hold.mk|omega|assumption|skip))
 refine awp_renrow 2 800000 rfl rfl (by decide) fun g => ?_
 simp only [go_sem]
 refine awp_ret ?_
 simp [go_sem]
theorem bump_spec (l : List Seg) (hl : l.length ≤ 1000) (h1 : 1 ≤ wordsV l) (hn : ∀ x ∈ l, 0 ≤ x.2 ∧ x.2 ≤ 1000000000) : PCall Tryz.prog 283 [dGs l] fun r => r = dGs (bumpV l) := by 
 refine pcall_of Tryz.func283 rfl rfl Tryz.ntmps283 (rs := [.tmp 2]) (tys := [240]) rfl rfl (by simp) ?_
 have W := words_spec l (by omega)
 have hwl := wordsV_le l
 have hbl := bumpN_le l
 obtain ⟨x, hx, hml, hm1, hxm, hb⟩ := bump_last h1
 have hxn := hn x hxm
 rw [hb]
 have htk : (l.take (wordsV l)) ≠ [] := by
  intro e
  have := congrArg List.length e
  simp at this
  rcases this with e | e
  ·omega
  ·subst e; simp at hwl; omega
 have hdrop : 1 < wordsV l → (l.take (wordsV l)).take (wordsV l - 1) = l.take (bumpN l) := by
  intro h; unfold bumpN; rw [if_pos h, List.take_take]; congr 1; omega
 have hsame : ¬ 1 < wordsV l → l.take (wordsV l) = l.take (bumpN l) := by
  intro h; unfold bumpN; rw [if_neg h]
 have hlen : (l.take (wordsV l)).length = wordsV l := by simp; omega
 have C := cloneG_spec (l.take (wordsV l)) (by omega) htk
 simp only [dGs, List.map_take] at C
 generalize hm : l.take (bumpN l) = m at *
 (refine awp_sr fun Y Yh => ?_; simp [go_sem]; ((repeat' (first|(refine ag_x ?_;simp [go_sem])|intro _|apply And.intro|(apply Yh;clear Yh Y)));all_goals first|apply Hold.mk|omega|assumption|skip))
 (refine awp_sr fun Y Yh => ?_; simp [go_sem]; ((repeat' (first|(refine ag_x ?_;simp [go_sem])|intro _|apply And.intro|(apply Yh;clear Yh Y)));all_goals first|apply Hold.mk|omega|assumption|skip))
 ((try refine CallT.toA ?_); refine callT_m (.inl ⟨rfl,rfl⟩) (by simp [go_sem]) ?_; intro args ha; simp [go_sem] at ha; subst ha; refine ⟨_, W, ?_⟩; rintro _ rfl; simp [go_sem]; ((repeat' (first|(refine ag_x ?_;simp [go_sem])|intro _|apply And.intro|(apply Yh;clear Yh Y)));all_goals first|apply Hold.mk|omega|assumption|skip))
 (refine callA_l [800000] (.inl ⟨rfl,rfl⟩) (by simp [go_sem]) ?_; intro args ha; simp [go_sem] at ha; subst ha; refine ⟨_, _, C, (by simp [go_sem]), ?_⟩; rintro ps r hps ⟨gw, rfl, rfl⟩; simp [go_sem]; ((repeat' (first|(refine ag_x ?_;simp [go_sem])|intro _|apply And.intro|(apply Yh;clear Yh Y)));all_goals first|apply Hold.mk|omega|assumption|skip))
 refine awp_seq_k fun K1 hK1 => ?_
 have tl1 : ∀ S' g, Cov S' ⟨[(0, .own 800000 g)], [(800000, g, .row 288 2 (m.map cG))]⟩ → K1 S' := fun S' g hS => by
  refine hK1 _ ?_
  refine awp_cov hS ?_; clear hS
  have hidx : ((m.length : Int) - 1).toNat = m.length - 1 := by omega
  (refine awp_sr fun Y Yh => ?_; simp [go_sem, hx, hidx]; ((repeat' (first|(refine ag_x ?_;simp [go_sem, hx, hidx])|intro _|apply And.intro|(apply Yh;clear Yh Y)));all_goals first|apply Hold.mk|omega|assumption|skip))
  (refine awp_sr fun Y Yh => ?_; simp [go_sem]; ((repeat' (first|(refine ag_x ?_;simp [go_sem])|intro _|apply And.intro|(apply Yh;clear Yh Y)));all_goals first|apply Hold.mk|omega|assumption|skip))
  (refine awp_ret ?_; simp [go_sem, hx, hidx])
 (refine awp_sr fun Y Yh => ?_; simp [go_sem, hlen]; ((repeat' (first|(refine ag_x ?_;simp [go_sem, hlen])|intro _|apply And.intro|(apply Yh;clear Yh Y)));all_goals first|apply Hold.mk|omega|assumption|skip))
 (refine awp_if fun T F hT hF => ?_; simp [go_sem]; refine BR.intro (fun h2 => hT ?_) (fun h2 => hF ?_); all_goals clear hT hF T F; try simp at h2) 
 ·(refine awp_r fun Y Yh => ?_; simp [go_sem, hlen]; ((repeat' (first|(refine ag_x ?_;simp [go_sem, hlen])|intro _|apply And.intro|(apply Yh;clear Yh Y)));all_goals first|apply Hold.mk|omega|assumption|skip))
  rename_i g'
  refine tl1 _ g' ?_
  rw [← hdrop (by omega)]
  (refine cov_of ?_ ?_ <;> simp [go_sem, hlen])
  all_goals omega
 ·refine awp_skip ?_
  refine tl1 _ gw ?_
  rw [← hsame (by omega)]
  (refine cov_of ?_ ?_ <;> simp [go_sem])
end Go.Proofs.YteekfnhhlcmcgaaGreatDoor
set_option linter.unusedVariables false
set_option linter.unusedSimpArgs false
namespace Go.Proofs.YteekfnhhlcmcgaaGreatDoor
open Go.Eng Go.Wh Go.Ver
set_option maxRecDepth 20000
attribute [local irreducible] AG CallA CallT AWp PCall ACall AgC
theorem met_spec (c : Cnd) (l : List Seg) (hc : VOk c.2) (hl : l.length ≤ 1000) : PCall Tryz.prog 249 [dC c, dGs l] fun r => r = dB (metV l c) := by 
 refine pcall_of Tryz.func249 rfl rfl Tryz.ntmps249 (rs := [.tmp 4]) (tys := [4]) rfl rfl (by simp) ?_
 have hcl := hc.1
 have C1 := compare_spec l c.2 (by omega) (by omega)
 have B1 := bump_spec c.2 (by omega) (wordsV_pos hc) (VOk.num hc)
 have hbl : (bumpV c.2).length ≤ 1000 := by rw [bumpV_len]; have := bumpN_le c.2; have := wordsV_le c.2; omega
 have C2 := compare_spec l (bumpV c.2) (by omega) (by omega)
 unfold metV
 generalize cmpV l c.2 = n at *
 generalize cmpV l (bumpV c.2) = k at *
 generalize bumpV c.2 = bu at *
 (refine awp_sr fun Y Yh => ?_; simp [go_sem]; ((repeat' (first|(refine ag_x ?_;simp [go_sem])|intro _|apply And.intro|(apply Yh;clear Yh Y)));all_goals first|apply Hold.mk|omega|assumption|skip))
 (refine awp_sr fun Y Yh => ?_; simp [go_sem]; ((repeat' (first|(refine ag_x ?_;simp [go_sem])|intro _|apply And.intro|(apply Yh;clear Yh Y)));all_goals first|apply Hold.mk|omega|assumption|skip))
 ((try refine CallT.toA ?_); refine callT_m (.inl ⟨rfl,rfl⟩) (by simp [go_sem]) ?_; intro args ha; simp [go_sem] at ha; subst ha; refine ⟨_, C1, ?_⟩; rintro _ rfl; simp [go_sem]; ((repeat' (first|(refine ag_x ?_;simp [go_sem])|intro _|apply And.intro|(apply Yh;clear Yh Y)));all_goals first|apply Hold.mk|omega|assumption|skip))
 refine awp_seq_k fun K1 hK1 => ?_
 (refine awp_sr fun Y Yh => ?_; simp [go_sem]; ((repeat' (first|(refine ag_x ?_;simp [go_sem])|intro _|apply And.intro|(apply Yh;clear Yh Y)));all_goals first|apply Hold.mk|omega|assumption|skip))
 refine awp_block ?_
 (refine awp_sr fun Y Yh => ?_; simp [go_sem]; ((repeat' (first|(refine ag_x ?_;simp [go_sem])|intro _|apply And.intro|(apply Yh;clear Yh Y)));all_goals first|apply Hold.mk|omega|assumption|skip))
 (refine awp_if fun T F hT hF => ?_; simp [go_sem]; refine BR.intro (fun h2 => hT ?_) (fun h2 => hF ?_); all_goals clear hT hF T F; try simp at h2) 
 ·(refine awp_sr fun Y Yh => ?_; simp [go_sem]; ((repeat' (first|(refine ag_x ?_;simp [go_sem])|intro _|apply And.intro|(apply Yh;clear Yh Y)));all_goals first|apply Hold.mk|omega|assumption|skip))
  (refine awp_ret ?_; simp [go_sem, h2])
 ·(refine awp_sr fun Y Yh => ?_; simp [go_sem]; ((repeat' (first|(refine ag_x ?_;simp [go_sem])|intro _|apply And.intro|(apply Yh;clear Yh Y)));all_goals first|apply Hold.mk|omega|assumption|skip))
  (refine awp_if fun T F hT hF => ?_; simp [go_sem]; refine BR.intro (fun h3 => hT ?_) (fun h3 => hF ?_); all_goals clear hT hF T F; try simp at h3) 
  ·(refine awp_sr fun Y Yh => ?_; simp [go_sem]; ((repeat' (first|(refine ag_x ?_;simp [go_sem])|intro _|apply And.intro|(apply Yh;clear Yh Y)));all_goals first|apply Hold.mk|omega|assumption|skip))
   (refine awp_ret ?_; simp [go_sem, h2, h3])
  ·(refine awp_sr fun Y Yh => ?_; simp [go_sem]; ((repeat' (first|(refine ag_x ?_;simp [go_sem])|intro _|apply And.intro|(apply Yh;clear Yh Y)));all_goals first|apply Hold.mk|omega|assumption|skip))
   (refine awp_if fun T F hT hF => ?_; simp [go_sem]; refine BR.intro (fun h4 => hT ?_) (fun h4 => hF ?_); all_goals clear hT hF T F; try simp at h4) 
   ·(refine awp_sr fun Y Yh => ?_; simp [go_sem]; ((repeat' (first|(refine ag_x ?_;simp [go_sem])|intro _|apply And.intro|(apply Yh;clear Yh Y)));all_goals first|apply Hold.mk|omega|assumption|skip))
    (refine awp_ret ?_; simp [go_sem, h2, h3, h4])
   ·(refine awp_sr fun Y Yh => ?_; simp [go_sem]; ((repeat' (first|(refine ag_x ?_;simp [go_sem])|intro _|apply And.intro|(apply Yh;clear Yh Y)));all_goals first|apply Hold.mk|omega|assumption|skip))
    (refine awp_if fun T F hT hF => ?_; simp [go_sem]; refine BR.intro (fun h5 => hT ?_) (fun h5 => hF ?_); all_goals clear hT hF T F; try simp at h5) 
    ·(refine awp_sr fun Y Yh => ?_; simp [go_sem]; ((repeat' (first|(refine ag_x ?_;simp [go_sem])|intro _|apply And.intro|(apply Yh;clear Yh Y)));all_goals first|apply Hold.mk|omega|assumption|skip))
     (refine awp_ret ?_; simp [go_sem, h2, h3, h4, h5])
    ·(refine awp_sr fun Y Yh => ?_; simp [go_sem]; ((repeat' (first|(refine ag_x ?_;simp [go_sem])|intro _|apply And.intro|(apply Yh;clear Yh Y)));all_goals first|apply Hold.mk|omega|assumption|skip))
     (refine awp_if fun T F hT hF => ?_; simp [go_sem]; refine BR.intro (fun h6 => hT ?_) (fun h6 => hF ?_); all_goals clear hT hF T F; try simp at h6) 
     ·(refine awp_sr fun Y Yh => ?_; simp [go_sem]; ((repeat' (first|(refine ag_x ?_;simp [go_sem])|intro _|apply And.intro|(apply Yh;clear Yh Y)));all_goals first|apply Hold.mk|omega|assumption|skip))
      (refine awp_ret ?_; simp [go_sem, h2, h3, h4, h5, h6])
     ·(refine awp_sr fun Y Yh => ?_; simp [go_sem]; ((repeat' (first|(refine ag_x ?_;simp [go_sem])|intro _|apply And.intro|(apply Yh;clear Yh Y)));all_goals first|apply Hold.mk|omega|assumption|skip))
      (refine awp_if fun T F hT hF => ?_; simp [go_sem]; refine BR.intro (fun h7 => hT ?_) (fun h7 => hF ?_); all_goals clear hT hF T F; try simp at h7) 
      ·(refine awp_sr fun Y Yh => ?_; simp [go_sem]; ((repeat' (first|(refine ag_x ?_;simp [go_sem])|intro _|apply And.intro|(apply Yh;clear Yh Y)));all_goals first|apply Hold.mk|omega|assumption|skip))
       (refine awp_ret ?_; simp [go_sem, h2, h3, h4, h5, h6, h7])
      ·refine awp_skip ?_
       refine hK1 _ ?_; clear hK1
       simp only [h2, h3, h4, h5, h6, h7, if_false]
       by_cases h8 : 0 ≤ n
       ·(refine awp_sr fun Y Yh => ?_; simp [go_sem, h8]; ((repeat' (first|(refine ag_x ?_;simp [go_sem, h8])|intro _|apply And.intro|(apply Yh;clear Yh Y)));all_goals first|apply Hold.mk|omega|assumption|skip))
        (refine agc_m (dGs bu) (.inl ⟨rfl,rfl⟩) (by simp [go_sem]) ?_ ?_; (intro hc args ha; simp [go_sem] at ha; subst ha; exact B1); simp [go_sem]; ((repeat' (first|(refine ag_x ?_;simp [go_sem])|intro _|apply And.intro|(apply Yh;clear Yh Y)));all_goals first|apply Hold.mk|omega|assumption|skip))
        (refine agc_f (dI k) (.inl ⟨rfl,rfl⟩) ?_ rfl ?_; (intro hc args ha; simp [go_sem] at ha; subst ha; exact C2); simp [go_sem]; ((repeat' (first|(refine ag_x ?_;simp [go_sem])|intro _|apply And.intro|(apply Yh;clear Yh Y)));all_goals first|apply Hold.mk|omega|assumption|skip))
        (refine awp_ret ?_; simp [go_sem, h8])
       ·(refine awp_sr fun Y Yh => ?_; simp [go_sem, h8]; ((repeat' (first|(refine ag_false (by simp [go_sem, undef, h8]) (by simp [go_sem]) ?_;simp [go_sem, h8])|intro _|apply And.intro|(apply Yh;clear Yh Y)));all_goals first|apply Hold.mk|omega|assumption|skip))
        (refine awp_ret ?_; simp [go_sem, h8])
theorem indexC_spec (l : List Cnd) (df : D) (f : Nat) (caps : List D) (p : Cnd → Bool) (hf : FunD df f caps) (hp : ∀ x ∈ l, PCall Tryz.prog f (dC x :: caps) fun r => r = dB (p x)) (hl : l.length ≤ 1000000) : PCall Tryz.prog 284 [dCs l, df] fun r => r = dI (fIx p l) := by 
 have hf' := hf
 rcases hf with ⟨rfl, rfl⟩ | rfl
 ·refine pcall_of Tryz.func284 rfl rfl Tryz.ntmps284 (rs := [.tmp 4]) (tys := [3]) rfl rfl (by simp) ?_
  (refine awp_sr fun Y Yh => ?_; simp [go_sem]; ((repeat' (first|(refine ag_x ?_;simp [go_sem])|intro _|apply And.intro|(apply Yh;clear Yh Y)));all_goals first|apply Hold.mk|omega|assumption|skip))
  refine awp_seq_k fun K1 hK1 => ?_
  (refine awp_sr fun Y Yh => ?_; simp [go_sem]; ((repeat' (first|(refine ag_x ?_;simp [go_sem])|intro _|apply And.intro|(apply Yh;clear Yh Y)));all_goals first|apply Hold.mk|omega|assumption|skip))
  refine awp_block ?_
  refine awp_loop (σ := Nat) (fun i => ⟨[(0, dCs l), (1, .v (.func (.func f) #[] #[])), (7, dI l.length), (8, dI i)], []⟩) (fun i => i ≤ l.length ∧ (l.take i).any p = false) (fun i => l.length - i) 0 (by (refine cov_of ?_ ?_ <;> simp [go_sem])) (by simp) ?_
  rintro i ⟨hi, hany⟩
  (refine awp_sr fun Y Yh => ?_; simp [go_sem]; ((repeat' (first|(refine ag_x ?_;simp [go_sem])|intro _|apply And.intro|(apply Yh;clear Yh Y)));all_goals first|apply Hold.mk|omega|assumption|skip))
  refine awp_seq_k fun K2 hK2 => ?_
  (refine awp_if fun T F hT hF => ?_; simp [go_sem]; refine BR.intro (fun h3 => hT ?_) (fun h3 => hF ?_); all_goals clear hT hF T F; try simp at h3) 
  ·refine awp_skip ?_
   refine hK2 _ ?_; clear hK2
   obtain ⟨x, hx⟩ : ∃ x, l[i]? = some x := ⟨_, List.getElem?_eq_getElem (by omega)⟩
   refine awp_seq_k fun K4 hK4 => ?_
   refine awp_block ?_
   (refine awp_sr fun Y Yh => ?_; simp [go_sem]; ((repeat' (first|(refine ag_x ?_;simp [go_sem])|intro _|apply And.intro|(apply Yh;clear Yh Y)));all_goals first|apply Hold.mk|omega|assumption|skip))
   (refine awp_sr fun Y Yh => ?_; simp [go_sem, hx]; ((repeat' (first|(refine ag_x ?_;simp [go_sem, hx])|intro _|apply And.intro|(apply Yh;clear Yh Y)));all_goals first|apply Hold.mk|omega|assumption|skip))
   ((try refine CallT.toA ?_); refine callT_m (by first|exact .inl ⟨rfl,rfl⟩|exact .inr rfl) (by simp [go_sem]) ?_; intro args ha; simp [go_sem] at ha; subst ha; refine ⟨_, (hp x (List.mem_of_getElem? hx)), ?_⟩; rintro _ rfl; simp [go_sem]; ((repeat' (first|(refine ag_x ?_;simp [go_sem])|intro _|apply And.intro|(apply Yh;clear Yh Y)));all_goals first|apply Hold.mk|omega|assumption|skip))
   (refine awp_if fun T F hT hF => ?_; simp [go_sem]; refine BR.intro (fun h5 => hT ?_) (fun h5 => hF ?_); all_goals clear hT hF T F; try simp at h5) 
   ·(refine awp_sr fun Y Yh => ?_; simp [go_sem]; ((repeat' (first|(refine ag_x ?_;simp [go_sem])|intro _|apply And.intro|(apply Yh;clear Yh Y)));all_goals first|apply Hold.mk|omega|assumption|skip))
    (refine awp_ret ?_; simp [go_sem])
    rw [fIx_at hany hx h5]
   ·refine awp_skip ?_
    refine hK4 _ ?_; clear hK4
    (refine awp_r fun Y Yh => ?_; simp [go_sem]; ((repeat' (first|(refine ag_x ?_;simp [go_sem])|intro _|apply And.intro|(apply Yh;clear Yh Y)));all_goals first|apply Hold.mk|omega|assumption|skip))
    refine ⟨i + 1, ?_, ⟨by omega, take_anyG hany hx (by simp [h5])⟩, by omega⟩
    (refine cov_of ?_ ?_ <;> simp [go_sem])
  ·refine awp_exit ?_
   simp only [go_sem]
   refine hK1 _ ?_; clear hK1
   (refine awp_sr fun Y Yh => ?_; simp [go_sem]; ((repeat' (first|(refine ag_x ?_;simp [go_sem])|intro _|apply And.intro|(apply Yh;clear Yh Y)));all_goals first|apply Hold.mk|omega|assumption|skip))
   (refine awp_ret ?_; simp [go_sem])
   have : i = l.length := by omega
   subst this
   rw [List.take_length] at hany
   rw [fIx_none hany]
 ·refine pcall_of Tryz.func284 rfl rfl Tryz.ntmps284 (rs := [.tmp 4]) (tys := [3]) rfl rfl (by simp) ?_
  (refine awp_sr fun Y Yh => ?_; simp [go_sem]; ((repeat' (first|(refine ag_x ?_;simp [go_sem])|intro _|apply And.intro|(apply Yh;clear Yh Y)));all_goals first|apply Hold.mk|omega|assumption|skip))
  refine awp_seq_k fun K1 hK1 => ?_
  (refine awp_sr fun Y Yh => ?_; simp [go_sem]; ((repeat' (first|(refine ag_x ?_;simp [go_sem])|intro _|apply And.intro|(apply Yh;clear Yh Y)));all_goals first|apply Hold.mk|omega|assumption|skip))
  refine awp_block ?_
  refine awp_loop (σ := Nat) (fun i => ⟨[(0, dCs l), (1, .fn f caps), (7, dI l.length), (8, dI i)], []⟩) (fun i => i ≤ l.length ∧ (l.take i).any p = false) (fun i => l.length - i) 0 (by (refine cov_of ?_ ?_ <;> simp [go_sem])) (by simp) ?_
  rintro i ⟨hi, hany⟩
  (refine awp_sr fun Y Yh => ?_; simp [go_sem]; ((repeat' (first|(refine ag_x ?_;simp [go_sem])|intro _|apply And.intro|(apply Yh;clear Yh Y)));all_goals first|apply Hold.mk|omega|assumption|skip))
  refine awp_seq_k fun K2 hK2 => ?_
  (refine awp_if fun T F hT hF => ?_; simp [go_sem]; refine BR.intro (fun h3 => hT ?_) (fun h3 => hF ?_); all_goals clear hT hF T F; try simp at h3) 
  ·refine awp_skip ?_
   refine hK2 _ ?_; clear hK2
   obtain ⟨x, hx⟩ : ∃ x, l[i]? = some x := ⟨_, List.getElem?_eq_getElem (by omega)⟩
   refine awp_seq_k fun K4 hK4 => ?_
   refine awp_block ?_
   (refine awp_sr fun Y Yh => ?_; simp [go_sem]; ((repeat' (first|(refine ag_x ?_;simp [go_sem])|intro _|apply And.intro|(apply Yh;clear Yh Y)));all_goals first|apply Hold.mk|omega|assumption|skip))
   (refine awp_sr fun Y Yh => ?_; simp [go_sem, hx]; ((repeat' (first|(refine ag_x ?_;simp [go_sem, hx])|intro _|apply And.intro|(apply Yh;clear Yh Y)));all_goals first|apply Hold.mk|omega|assumption|skip))
   ((try refine CallT.toA ?_); refine callT_m (by first|exact .inl ⟨rfl,rfl⟩|exact .inr rfl) (by simp [go_sem]) ?_; intro args ha; simp [go_sem] at ha; subst ha; refine ⟨_, (hp x (List.mem_of_getElem? hx)), ?_⟩; rintro _ rfl; simp [go_sem]; ((repeat' (first|(refine ag_x ?_;simp [go_sem])|intro _|apply And.intro|(apply Yh;clear Yh Y)));all_goals first|apply Hold.mk|omega|assumption|skip))
   (refine awp_if fun T F hT hF => ?_; simp [go_sem]; refine BR.intro (fun h5 => hT ?_) (fun h5 => hF ?_); all_goals clear hT hF T F; try simp at h5) 
   ·(refine awp_sr fun Y Yh => ?_; simp [go_sem]; ((repeat' (first|(refine ag_x ?_;simp [go_sem])|intro _|apply And.intro|(apply Yh;clear Yh Y)));all_goals first|apply Hold.mk|omega|assumption|skip))
    (refine awp_ret ?_; simp [go_sem])
    rw [fIx_at hany hx h5]
   ·refine awp_skip ?_
    refine hK4 _ ?_; clear hK4
    (refine awp_r fun Y Yh => ?_; simp [go_sem]; ((repeat' (first|(refine ag_x ?_;simp [go_sem])|intro _|apply And.intro|(apply Yh;clear Yh Y)));all_goals first|apply Hold.mk|omega|assumption|skip))
    refine ⟨i + 1, ?_, ⟨by omega, take_anyG hany hx (by simp [h5])⟩, by omega⟩
    (refine cov_of ?_ ?_ <;> simp [go_sem])
  ·refine awp_exit ?_
   simp only [go_sem]
   refine hK1 _ ?_; clear hK1
   (refine awp_sr fun Y Yh => ?_; simp [go_sem]; ((repeat' (first|(refine ag_x ?_;simp [go_sem])|intro _|apply And.intro|(apply Yh;clear Yh Y)));all_goals first|apply Hold.mk|omega|assumption|skip))
   (refine awp_ret ?_; simp [go_sem])
   have : i = l.length := by omega
   subst this
   rw [List.take_length] at hany
   rw [fIx_none hany]
theorem containsC_spec (l : List Cnd) (df : D) (f : Nat) (caps : List D) (p : Cnd → Bool) (hf : FunD df f caps) (hp : ∀ x ∈ l, PCall Tryz.prog f (dC x :: caps) fun r => r = dB (p x)) (hl : l.length ≤ 1000000) : PCall Tryz.prog 250 [dCs l, df] fun r => r = dB (l.any p) := by
 have hf' := hf
 rcases hf with ⟨rfl, rfl⟩ | rfl
 all_goals
  refine pcall_of Tryz.func250 rfl rfl Tryz.ntmps250 (rs := [.tmp 4]) (tys := [4]) rfl rfl (by simp) ?_
  (refine awp_sr fun Y Yh => ?_; simp [go_sem]; ((repeat' (first|(refine ag_x ?_;simp [go_sem])|intro _|apply And.intro|(apply Yh;clear Yh Y)));all_goals first|apply Hold.mk|omega|assumption|skip))
  (refine awp_sr fun Y Yh => ?_; simp [go_sem]; ((repeat' (first|(refine ag_x ?_;simp [go_sem])|intro _|apply And.intro|(apply Yh;clear Yh Y)));all_goals first|apply Hold.mk|omega|assumption|skip))
  ((try refine CallT.toA ?_); refine callT_m (.inl ⟨rfl,rfl⟩) (by simp [go_sem]) ?_; intro args ha; simp [go_sem] at ha; subst ha; refine ⟨_, (indexC_spec _ _ _ _ _ hf' hp hl), ?_⟩; rintro _ rfl; simp [go_sem]; ((repeat' (first|(refine ag_x ?_;simp [go_sem])|intro _|apply And.intro|(apply Yh;clear Yh Y)));all_goals first|apply Hold.mk|omega|assumption|skip))
  (refine awp_ret ?_; simp [go_sem, fIx_any])
theorem meets1_spec (c : Cnd) (hl : c.2.length ≤ 1000) : PCall Tryz.prog 251 [dC c] fun r => r = dB (preV c.2) := by
 refine pcall_of Tryz.func251 rfl rfl Tryz.ntmps251 (rs := [.tmp 2]) (tys := [4]) rfl rfl (by simp) ?_
 have W := words_spec c.2 (by omega)
 have e := wordsV_lt c.2
 (refine awp_sr fun Y Yh => ?_; simp [go_sem]; ((repeat' (first|(refine ag_x ?_;simp [go_sem])|intro _|apply And.intro|(apply Yh;clear Yh Y)));all_goals first|apply Hold.mk|omega|assumption|skip))
 ((refine awp_dr (.qs [0, 3, 1, 4, 5] (.kp 2 (.qs [6, 7] (.nil)))) (by kernel_rfl) ?_ ?_ ?_ ?_); (kernel_rfl); (exact (by decide +kernel)); (kernel_rfl); intro Y Yh; ((repeat' (first|(refine ag_x ?_;simp [go_sem])|refine adr_nil ?_|((first|refine adr_qs fun Y Yh=>?_|refine adr_y fun Y Yh=>?_);simp [go_sem])|intro _|apply And.intro|(apply Yh;clear Yh Y)));all_goals first|apply Hold.mk|omega|assumption|skip))
 ((try refine CallT.toA ?_); refine callT_m (.inl ⟨rfl,rfl⟩) (by simp [go_sem]) ?_; intro args ha; simp [go_sem] at ha; subst ha; refine ⟨_, W, ?_⟩; rintro _ rfl; simp [go_sem]; ((repeat' (first|(refine ag_x ?_;simp [go_sem])|refine adr_nil ?_|((first|refine adr_qs fun Y Yh=>?_|refine adr_y fun Y Yh=>?_);simp [go_sem])|intro _|apply And.intro|(apply Yh;clear Yh Y)));all_goals first|apply Hold.mk|omega|assumption|skip))
 (refine awp_ret ?_; simp [go_sem])
 exact e
theorem meets_spec (l : List Seg) (cs : List Cnd) (hl : l.length ≤ 1000) (hcs : cs.length ≤ 1000) (hc : ∀ c ∈ cs, VOk c.2) : PCall Tryz.prog 215 [dGs l, dCs cs] fun r => r = dB (meetsV l cs) := by 
 refine pcall_of Tryz.func215 rfl rfl Tryz.ntmps215 (rs := [.tmp 4]) (tys := [4]) rfl rfl (by simp) ?_
 have W := words_spec l (by omega)
 have C := containsC_spec cs _ 251 [] (fun c => preV c.2) (.inl ⟨rfl, rfl⟩) (fun c h => meets1_spec c (by have := (hc c h).1; omega)) (by omega)
 have e := wordsV_lt l
 have M := fun c h => met_spec c l (hc c h) hl
 have hbad : ∀ c ∈ cs, metV l c = false → meetsV l cs = false := by
  intro c h hm
  unfold meetsV
  have : cs.all (metV l) = false := by
   rw [List.all_eq_false]; exact ⟨c, h, by simp [hm]⟩
  rw [this]; rfl
 have hok : cs.all (metV l) = true → meetsV l cs = (!preV l || cs.any fun c => preV c.2) := by
  intro h; unfold meetsV; rw [h]; rfl
 have hall : ∀ i c, cs[i]? = some c → (cs.take i).all (metV l) = true → metV l c = true → (cs.take (i + 1)).all (metV l) = true := by
  intro i c h h1 h2
  rw [List.take_add_one, h, List.all_append, h1]; simpa using h2
 generalize meetsV l cs = res at *
 generalize (cs.any fun c => preV c.2) = an at *
 generalize preV l = pr at *
 generalize wordsV l = wl at *
 subst e
 (refine awp_sr fun Y Yh => ?_; simp [go_sem]; ((repeat' (first|(refine ag_x ?_;simp [go_sem])|intro _|apply And.intro|(apply Yh;clear Yh Y)));all_goals first|apply Hold.mk|omega|assumption|skip))
 (refine awp_sr fun Y Yh => ?_; simp [go_sem]; ((repeat' (first|(refine ag_x ?_;simp [go_sem])|intro _|apply And.intro|(apply Yh;clear Yh Y)));all_goals first|apply Hold.mk|omega|assumption|skip))
 ((try refine CallT.toA ?_); refine callT_m (.inl ⟨rfl,rfl⟩) (by simp [go_sem]) ?_; intro args ha; simp [go_sem] at ha; subst ha; refine ⟨_, W, ?_⟩; rintro _ rfl; simp [go_sem]; ((repeat' (first|(refine ag_x ?_;simp [go_sem])|intro _|apply And.intro|(apply Yh;clear Yh Y)));all_goals first|apply Hold.mk|omega|assumption|skip))
 refine awp_seq_k fun K1 hK1 => ?_
 (refine awp_sr fun Y Yh => ?_; simp [go_sem]; ((repeat' (first|(refine ag_x ?_;simp [go_sem])|intro _|apply And.intro|(apply Yh;clear Yh Y)));all_goals first|apply Hold.mk|omega|assumption|skip))
 refine awp_block ?_
 refine awp_loop (σ := Nat) (fun i => ⟨[(0, dGs l), (1, dCs cs), (5, dB (decide (wl < l.length))), (13, dCs cs), (14, dI cs.length), (15, dI i)], []⟩) (fun i => i ≤ cs.length ∧ (cs.take i).all (metV l) = true) (fun i => cs.length - i) 0 ?_ ?_ ?_
 ·(refine cov_of ?_ ?_ <;> simp [go_sem])
 ·exact ⟨by omega, by simp⟩
 rintro i ⟨hi, ha⟩
 (refine awp_sr fun Y Yh => ?_; simp [go_sem]; ((repeat' (first|(refine ag_x ?_;simp [go_sem])|intro _|apply And.intro|(apply Yh;clear Yh Y)));all_goals first|apply Hold.mk|omega|assumption|skip))
 refine awp_seq_k fun K2 hK2 => ?_
 (refine awp_if fun T F hT hF => ?_; simp [go_sem]; refine BR.intro (fun h3 => hT ?_) (fun h3 => hF ?_); all_goals clear hT hF T F; try simp at h3) 
 ·refine awp_skip ?_
  refine hK2 _ ?_; clear hK2
  obtain ⟨c, hx⟩ : ∃ c, cs[i]? = some c := ⟨_, List.getElem?_eq_getElem (by omega)⟩
  have hm := List.mem_of_getElem? hx
  have M1 := M c hm
  have hb := hbad c hm
  have ha2 := hall i c hx ha
  generalize metV l c = mc at *
  refine awp_seq_k fun K4 hK4 => ?_
  refine awp_block ?_
  (refine awp_sr fun Y Yh => ?_; simp [go_sem, hx]; ((repeat' (first|(refine ag_x ?_;simp [go_sem, hx])|intro _|apply And.intro|(apply Yh;clear Yh Y)));all_goals first|apply Hold.mk|omega|assumption|skip))
  (refine awp_sr fun Y Yh => ?_; simp [go_sem]; ((repeat' (first|(refine ag_x ?_;simp [go_sem])|intro _|apply And.intro|(apply Yh;clear Yh Y)));all_goals first|apply Hold.mk|omega|assumption|skip))
  ((try refine CallT.toA ?_); refine callT_m (.inl ⟨rfl,rfl⟩) (by simp [go_sem]) ?_; intro args ha; simp [go_sem] at ha; subst ha; refine ⟨_, M1, ?_⟩; rintro _ rfl; simp [go_sem]; ((repeat' (first|(refine ag_x ?_;simp [go_sem])|intro _|apply And.intro|(apply Yh;clear Yh Y)));all_goals first|apply Hold.mk|omega|assumption|skip))
  (refine awp_if fun T F hT hF => ?_; simp [go_sem]; refine BR.intro (fun h5 => hT ?_) (fun h5 => hF ?_); all_goals clear hT hF T F; try simp at h5) 
  ·(refine awp_sr fun Y Yh => ?_; simp [go_sem]; ((repeat' (first|(refine ag_x ?_;simp [go_sem])|intro _|apply And.intro|(apply Yh;clear Yh Y)));all_goals first|apply Hold.mk|omega|assumption|skip))
   (refine awp_ret ?_; simp [go_sem, hb h5])
  ·refine awp_skip ?_
   refine hK4 _ ?_; clear hK4
   (refine awp_r fun Y Yh => ?_; simp [go_sem]; ((repeat' (first|(refine ag_x ?_;simp [go_sem])|intro _|apply And.intro|(apply Yh;clear Yh Y)));all_goals first|apply Hold.mk|omega|assumption|skip))
   refine ⟨i + 1, ?_, ⟨by omega, ha2 h5⟩, by omega⟩
   (refine cov_of ?_ ?_ <;> simp [go_sem])
 ·refine awp_exit ?_
  simp only [go_sem]
  refine hK1 _ ?_; clear hK1
  have : i = cs.length := by omega
  subst this
  rw [List.take_length] at ha
  rw [hok ha]
  by_cases hp : wl < l.length
  ·(refine awp_sr fun Y Yh => ?_; simp [go_sem, hp]; ((repeat' (first|(refine ag_x ?_;simp [go_sem, hp])|intro _|apply And.intro|(apply Yh;clear Yh Y)));all_goals first|apply Hold.mk|omega|assumption|skip))
   (refine agc_f (dB an) (.inl ⟨rfl,rfl⟩) ?_ rfl ?_; (intro hc args ha; simp [go_sem] at ha; subst ha; exact C); simp [go_sem]; ((repeat' (first|(refine ag_x ?_;simp [go_sem])|intro _|apply And.intro|(apply Yh;clear Yh Y)));all_goals first|apply Hold.mk|omega|assumption|skip))
   (refine awp_ret ?_; simp [go_sem, hp])
  ·(refine awp_sr fun Y Yh => ?_; simp [go_sem, hp]; ((repeat' (first|(refine ag_false (by simp [go_sem, undef, hp]) (by simp [go_sem]) ?_;simp [go_sem, hp])|intro _|apply And.intro|(apply Yh;clear Yh Y)));all_goals first|apply Hold.mk|omega|assumption|skip))
   (refine awp_ret ?_; simp [go_sem, hp])
end Go.Proofs.YteekfnhhlcmcgaaGreatDoor
set_option linter.unusedVariables false
set_option linter.unusedSimpArgs false
namespace Go.Proofs.YteekfnhhlcmcgaaGreatDoor
open Go.Eng Go.Wh Go.Ver
set_option maxRecDepth 20000
attribute [local irreducible] AG CallA CallT AWp PCall ACall AgC
theorem Compare_spec (v w : List UInt8) (hv : v.length ≤ 1000000) (hw : w.length ≤ 1000000) : PCall Tryz.prog 137 [dS v, dS w] fun r => r = .tup [dI (compareP v w), dI (codeP ((readV v).isSome && (readV w).isSome))] := by 
 refine pcall_of Tryz.func137 rfl rfl Tryz.ntmps137 (rs := [.tmp 4, .tmp 5]) (tys := [3, 35]) rfl rfl (by simp) ?_
 have R1 := read_spec v (by omega)
 have R2 := read_spec w (by omega)
 have h1 := @read_ok v
 have h2 := @read_ok w
 unfold compareP codeP
 generalize readP v = a at *
 generalize readP w = b at *
 have C := fun (p : (readV v).isSome = true) (q : (readV w).isSome = true) => compare_spec a b (by have := (h1 p).2.1.1; omega) (by have := (h2 q).2.1.1; omega)
 generalize (readV v).isSome = x at *
 generalize (readV w).isSome = y at *
 (refine awp_sr fun Y Yh => ?_; simp [go_sem]; ((repeat' (first|(refine ag_x ?_;simp [go_sem])|intro _|apply And.intro|(apply Yh;clear Yh Y)));all_goals first|apply Hold.mk|omega|assumption|skip))
 (refine awp_sr fun Y Yh => ?_; simp [go_sem]; ((repeat' (first|(refine ag_x ?_;simp [go_sem])|intro _|apply And.intro|(apply Yh;clear Yh Y)));all_goals first|apply Hold.mk|omega|assumption|skip))
 ((try refine CallT.toA ?_); refine callT_m (.inl ⟨rfl,rfl⟩) (by simp [go_sem]) ?_; intro args ha; simp [go_sem] at ha; subst ha; refine ⟨_, R1, ?_⟩; rintro _ rfl; simp [go_sem]; ((repeat' (first|(refine ag_x ?_;simp [go_sem])|intro _|apply And.intro|(apply Yh;clear Yh Y)));all_goals first|apply Hold.mk|omega|assumption|skip))
 (refine awp_sr fun Y Yh => ?_; simp [go_sem]; ((repeat' (first|(refine ag_x ?_;simp [go_sem])|intro _|apply And.intro|(apply Yh;clear Yh Y)));all_goals first|apply Hold.mk|omega|assumption|skip))
 ((try refine CallT.toA ?_); refine callT_m (.inl ⟨rfl,rfl⟩) (by simp [go_sem]) ?_; intro args ha; simp [go_sem] at ha; subst ha; refine ⟨_, R2, ?_⟩; rintro _ rfl; simp [go_sem]; ((repeat' (first|(refine ag_x ?_;simp [go_sem])|intro _|apply And.intro|(apply Yh;clear Yh Y)));all_goals first|apply Hold.mk|omega|assumption|skip))
 refine awp_seq_k fun K1 hK1 => ?_
 cases x with
 | false =>
  (refine awp_sr fun Y Yh => ?_; simp [go_sem]; ((repeat' (first|(refine ag_false (by simp [go_sem, undef]) (by simp [go_sem]) ?_;simp [go_sem])|intro _|apply And.intro|(apply Yh;clear Yh Y)));all_goals first|apply Hold.mk|omega|assumption|skip))
  (refine awp_if fun T F hT hF => ?_; simp [go_sem]; refine hT ?_; clear hT hF T F)
  (refine awp_sr fun Y Yh => ?_; simp [go_sem]; ((repeat' (first|(refine ag_x ?_;simp [go_sem])|intro _|apply And.intro|(apply Yh;clear Yh Y)));all_goals first|apply Hold.mk|omega|assumption|skip))
  (refine awp_ret ?_; simp [go_sem])
 | true =>
  cases y with
  | false =>
   (refine awp_sr fun Y Yh => ?_; simp [go_sem]; ((repeat' (first|(refine ag_x ?_;simp [go_sem])|intro _|apply And.intro|(apply Yh;clear Yh Y)));all_goals first|apply Hold.mk|omega|assumption|skip))
   (refine awp_if fun T F hT hF => ?_; simp [go_sem]; refine hT ?_; clear hT hF T F)
   (refine awp_sr fun Y Yh => ?_; simp [go_sem]; ((repeat' (first|(refine ag_x ?_;simp [go_sem])|intro _|apply And.intro|(apply Yh;clear Yh Y)));all_goals first|apply Hold.mk|omega|assumption|skip))
   (refine awp_ret ?_; simp [go_sem])
  | true =>
   (refine awp_sr fun Y Yh => ?_; simp [go_sem]; ((repeat' (first|(refine ag_x ?_;simp [go_sem])|intro _|apply And.intro|(apply Yh;clear Yh Y)));all_goals first|apply Hold.mk|omega|assumption|skip))
   (refine awp_if fun T F hT hF => ?_; simp [go_sem]; refine hF ?_; clear hT hF T F)
   refine awp_skip ?_
   refine hK1 _ ?_; clear hK1
   (refine awp_sr fun Y Yh => ?_; simp [go_sem]; ((repeat' (first|(refine ag_x ?_;simp [go_sem])|intro _|apply And.intro|(apply Yh;clear Yh Y)));all_goals first|apply Hold.mk|omega|assumption|skip))
   ((try refine CallT.toA ?_); refine callT_m (.inl ⟨rfl,rfl⟩) (by simp [go_sem]) ?_; intro args ha; simp [go_sem] at ha; subst ha; refine ⟨_, (C rfl rfl), ?_⟩; rintro _ rfl; simp [go_sem]; ((repeat' (first|(refine ag_x ?_;simp [go_sem])|intro _|apply And.intro|(apply Yh;clear Yh Y)));all_goals first|apply Hold.mk|omega|assumption|skip))
   (refine awp_ret ?_; simp [go_sem])
theorem Meets_spec (v r : List UInt8) (hv : v.length ≤ 1000000) (hw : r.length ≤ 1000000) : PCall Tryz.prog 181 [dS v, dS r] fun x => x = .tup [dB (meetsP v r), dI (codeP ((readV v).isSome && (condsV r).isSome))] := by 
 refine pcall_of Tryz.func181 rfl rfl Tryz.ntmps181 (rs := [.tmp 4, .tmp 5]) (tys := [4, 35]) rfl rfl (by simp) ?_
 have R1 := read_spec v (by omega)
 have R2 := conditions_spec r (by omega)
 have h1 := @read_ok v
 have h2 := @conds_ok r
 unfold meetsP codeP
 generalize readP v = a at *
 generalize condsP r = b at *
 have C := fun (p : (readV v).isSome = true) (q : (condsV r).isSome = true) => meets_spec a b (by have := (h1 p).2.1.1; omega) (by have := (h2 q).2.2; omega) (fun c hc => ((h2 q).2.1 c hc).2.1)
 generalize (readV v).isSome = x at *
 generalize (condsV r).isSome = y at *
 (refine awp_sr fun Y Yh => ?_; simp [go_sem]; ((repeat' (first|(refine ag_x ?_;simp [go_sem])|intro _|apply And.intro|(apply Yh;clear Yh Y)));all_goals first|apply Hold.mk|omega|assumption|skip))
 (refine awp_sr fun Y Yh => ?_; simp [go_sem]; ((repeat' (first|(refine ag_x ?_;simp [go_sem])|intro _|apply And.intro|(apply Yh;clear Yh Y)));all_goals first|apply Hold.mk|omega|assumption|skip))
 ((try refine CallT.toA ?_); refine callT_m (.inl ⟨rfl,rfl⟩) (by simp [go_sem]) ?_; intro args ha; simp [go_sem] at ha; subst ha; refine ⟨_, R1, ?_⟩; rintro _ rfl; simp [go_sem]; ((repeat' (first|(refine ag_x ?_;simp [go_sem])|intro _|apply And.intro|(apply Yh;clear Yh Y)));all_goals first|apply Hold.mk|omega|assumption|skip))
 (refine awp_sr fun Y Yh => ?_; simp [go_sem]; ((repeat' (first|(refine ag_x ?_;simp [go_sem])|intro _|apply And.intro|(apply Yh;clear Yh Y)));all_goals first|apply Hold.mk|omega|assumption|skip))
 ((try refine CallT.toA ?_); refine callT_m (.inl ⟨rfl,rfl⟩) (by simp [go_sem]) ?_; intro args ha; simp [go_sem] at ha; subst ha; refine ⟨_, R2, ?_⟩; rintro _ rfl; simp [go_sem]; ((repeat' (first|(refine ag_x ?_;simp [go_sem])|intro _|apply And.intro|(apply Yh;clear Yh Y)));all_goals first|apply Hold.mk|omega|assumption|skip))
 refine awp_seq_k fun K1 hK1 => ?_
 cases x with
 | false =>
  (refine awp_sr fun Y Yh => ?_; simp [go_sem]; ((repeat' (first|(refine ag_false (by simp [go_sem, undef]) (by simp [go_sem]) ?_;simp [go_sem])|intro _|apply And.intro|(apply Yh;clear Yh Y)));all_goals first|apply Hold.mk|omega|assumption|skip))
  (refine awp_if fun T F hT hF => ?_; simp [go_sem]; refine hT ?_; clear hT hF T F)
  (refine awp_sr fun Y Yh => ?_; simp [go_sem]; ((repeat' (first|(refine ag_x ?_;simp [go_sem])|intro _|apply And.intro|(apply Yh;clear Yh Y)));all_goals first|apply Hold.mk|omega|assumption|skip))
  (refine awp_ret ?_; simp [go_sem])
 | true =>
  cases y with
  | false =>
   (refine awp_sr fun Y Yh => ?_; simp [go_sem]; ((repeat' (first|(refine ag_x ?_;simp [go_sem])|intro _|apply And.intro|(apply Yh;clear Yh Y)));all_goals first|apply Hold.mk|omega|assumption|skip))
   (refine awp_if fun T F hT hF => ?_; simp [go_sem]; refine hT ?_; clear hT hF T F)
   (refine awp_sr fun Y Yh => ?_; simp [go_sem]; ((repeat' (first|(refine ag_x ?_;simp [go_sem])|intro _|apply And.intro|(apply Yh;clear Yh Y)));all_goals first|apply Hold.mk|omega|assumption|skip))
   (refine awp_ret ?_; simp [go_sem])
  | true =>
   (refine awp_sr fun Y Yh => ?_; simp [go_sem]; ((repeat' (first|(refine ag_x ?_;simp [go_sem])|intro _|apply And.intro|(apply Yh;clear Yh Y)));all_goals first|apply Hold.mk|omega|assumption|skip))
   (refine awp_if fun T F hT hF => ?_; simp [go_sem]; refine hF ?_; clear hT hF T F)
   refine awp_skip ?_
   refine hK1 _ ?_; clear hK1
   (refine awp_sr fun Y Yh => ?_; simp [go_sem]; ((repeat' (first|(refine ag_x ?_;simp [go_sem])|intro _|apply And.intro|(apply Yh;clear Yh Y)));all_goals first|apply Hold.mk|omega|assumption|skip))
   ((try refine CallT.toA ?_); refine callT_m (.inl ⟨rfl,rfl⟩) (by simp [go_sem]) ?_; intro args ha; simp [go_sem] at ha; subst ha; refine ⟨_, (C rfl rfl), ?_⟩; rintro _ rfl; simp [go_sem]; ((repeat' (first|(refine ag_x ?_;simp [go_sem])|intro _|apply And.intro|(apply Yh;clear Yh Y)));all_goals first|apply Hold.mk|omega|assumption|skip))
   (refine awp_ret ?_; simp [go_sem])
end Go.Proofs.YteekfnhhlcmcgaaGreatDoor
set_option linter.unusedVariables false
set_option linter.unusedSimpArgs false
namespace Go.Ver
variable {α : Type} {lt : α → α → Bool}
theorem two_at {P Q R : List α} {x y : α} {p q : Nat} (hp : p = P.length) (hq : q = P.length + 1 + Q.length) :
  (P ++ x :: (Q ++ y :: R))[p]? = some x ∧ (P ++ x :: (Q ++ y :: R))[q]? = some y := by
 subst hp hq
 refine ⟨by simp, ?_⟩
 rw [List.getElem?_append_right (by omega)]
 rw [show P.length + 1 + Q.length - P.length = Q.length + 1 by omega, List.getElem?_cons_succ]
 simp
theorem two_set {P Q R : List α} {x y : α} {p q : Nat} (hp : p = P.length) (hq : q = P.length + 1 + Q.length) :
  ((P ++ x :: (Q ++ y :: R)).set p y).set q x = P ++ y :: (Q ++ x :: R) := by
 subst hp hq
 rw [List.set_append_right _ _ (by omega), Nat.sub_self, List.set_cons_zero]
 rw [List.set_append_right _ _ (by omega), show P.length + 1 + Q.length - P.length = Q.length + 1 by omega, List.set_cons_succ]
 rw [List.set_append_right _ _ (by omega), Nat.sub_self, List.set_cons_zero]
theorem two_setR {P Q R : List α} {x y : α} {p q : Nat} (hp : p = P.length) (hq : q = P.length + 1 + Q.length) :
  ((P ++ x :: (Q ++ y :: R)).set q x).set p y = P ++ y :: (Q ++ x :: R) := by
 rw [List.set_comm _ _ (by omega)]
 exact two_set hp hq
theorem srt_app {A B : List α} (h : Srt lt (A ++ B)) : Srt lt A ∧ Srt lt B ∧ ∀ x ∈ A, ∀ y ∈ B, lt y x = false := by
 obtain ⟨h1, h2, h3⟩ := List.pairwise_append.1 h
 exact ⟨h1, h2, h3⟩
theorem srt_before (w : Weakly lt) {A : List α} {y z : α} (h : Srt lt (A ++ [y])) (hz : lt z y = false) : ∀ x ∈ A ++ [y], lt z x = false := by
 intro x hx
 rcases List.mem_append.1 hx with hx | hx
 ·exact w.neg x y z ((srt_app h).2.2 x hx y (by simp)) hz
 ·simp at hx; subst hx; exact hz
theorem sort_len : ∀ (l : List α), (sortL lt l).length = l.length
 | [] => rfl
 | x :: l => by
  show (mergeL lt [x] (sortL lt l)).length = _
  rw [merge_len, sort_len l]; simp; omega
where merge_len : ∀ {L R : List α}, (mergeL lt L R).length = L.length + R.length
 | [], R => by simp [merge_nil_l]
 | l :: L, [] => by simp [merge_nil_r]
 | l :: L, r :: R => by
  rw [merge_cons]
  split
  ·simp only [List.length_cons]; rw [merge_len]; simp only [List.length_cons]; omega
  ·simp only [List.length_cons]; rw [merge_len]; simp only [List.length_cons]; omega
termination_by L R => L.length + R.length
theorem merge_len (L R : List α) : (mergeL lt L R).length = L.length + R.length := sort_len.merge_len
theorem sort_mem {l : List α} {x : α} : x ∈ sortL lt l ↔ x ∈ l := by
 induction l with
 | nil => simp [sortL]
 | cons y l ih =>
  show x ∈ mergeL lt [y] (sortL lt l) ↔ _
  rw [merge_mem, ih]; simp
end Go.Ver
set_option linter.unusedVariables false
set_option linter.unusedSimpArgs false
namespace Go.Ver
open Go.Lib Go.Wh
def cV (x y : List UInt8) : Int := cmpV (readP x) (readP y)
end Go.Ver
