/- Part of a proof: see the last text. -/
import Derived.Test.YtkgmecjaejaehaaGreatDoorG06
import Derived.Lib.RuneBytes
import Derived.Test.YtkgmecjaejaehaaGreatDoorG05
set_option linter.unusedVariables false
set_option linter.unusedSimpArgs false
namespace Go.Proofs.YtkgmecjaejaehaaGreatDoor
open Go.Eng Go.Js Go.RowKit
set_option maxRecDepth 20000
def ArPost (w : World) (v : Value) (l : List UInt8) (s : List UInt8) (e : Ending) (w' : World) : Prop :=
 ∃ v', e = .returned v' ∧ w'.ownsRowF 0 5 1 v' (l.length + s.length) (Lib.byteCells (l ++ s)) ∧ (v'.ownBlock = v.ownBlock ∨ ∀ k, v'.ownBlock = some k → w.heap.size ≤ k) ∧
  w'.os = w.os ∧ w'.tape = w.tape ∧ w'.output = w.output ∧ w.heap.size ≤ w'.heap.size ∧ ∀ k, k < w.heap.size → v.ownBlock ≠ some k → w'.heap[k]? = w.heap[k]?
theorem strCells_list (s : List UInt8) : Lib.strCells ⟨s.toArray⟩ = Lib.byteCells s := strCells_eq s
theorem ar_row (v : Value) (l s : List UInt8) (xs : Array Value) (hx : xs.toList = Lib.byteCells s) (w : World) (hown : w.ownsRowF 0 5 1 v l.length (Lib.byteCells l)) (hlen : l.length + s.length ≤ 140737488355328) :
  ∃ v' w', (∀ ty, (Builtin.append_ #[130, 130] ty #[v, .slice (some ⟨w.heap.size, 0, none⟩) s.length s.length]).run Tryz.prog (w.alloc (.cells xs 5)) = .ok v' w') ∧ ArPost w v l s (.returned v') w' := by
 obtain ⟨i0, hi, hz0, hz1, hz2⟩ := info_parts bX.infoByte
 have hsz : (⟨s.toArray⟩ : ByteArray).size = s.length := by simp [ByteArray.size]
 have hnew : ∀ (j : Nat) (u : Value), (Lib.strCells ⟨s.toArray⟩)[j]? = some u → (w.alloc (.cells xs 5)).cell? ((⟨w.heap.size, 0, none⟩ : Addr).add j) = some u := fun j u hj => by
  rw [strCells_list, ← hx] at hj
  have : (⟨w.heap.size, 0, none⟩ : Addr).add j = ⟨w.heap.size, j, none⟩ := by unfold Addr.add; split <;> simp_all
  rw [this]
  have hh : (w.alloc (.cells xs 5)).heap[w.heap.size]? = some (.cells xs 5) := heap_alloc_new w _
  rw [Lib.cell_of_heap hh]
  simpa using hj
 obtain ⟨v', w2, hrun, hown', hgrow, hat⟩ := app_row (P := Tryz.prog) (w := w.alloc (.cells xs 5)) 130 9 5 i0 Tryz.underlying130 Tryz.underlying9 hi hz0 hz1 hz2 v l.length _ (hown.alloc _) ⟨w.heap.size, 0, none⟩ s.length ⟨s.toArray⟩ hnew (by rw [hsz]; omega)
 rw [hsz] at hrun hown'
 have hsa : (w.alloc (.cells xs 5)).heap.size = w.heap.size + 1 := by simp
 have hal : ∀ k, k < w.heap.size → (w.alloc (.cells xs 5)).heap[k]? = w.heap[k]? := fun k hk => Lib.alloc_old w _ k hk
 refine ⟨v', w2, hrun, v', rfl, ?_, ?_, hgrow.os, hgrow.tape, hgrow.output, ?_, ?_⟩
 ·rw [strCells_list] at hown'
  simpa [Lib.byteCells] using hown'
 ·rcases hat with h | h
  ·exact .inl h
  ·exact .inr fun k hk => by have := h k hk; omega
 ·have := hgrow.size; omega
 ·intro k hk hkv
  rw [hgrow.block k (by omega) (fun e => hkv e.symm), hal k hk]
theorem utfB_cells (r : Nat) : Lib.byteCells (utfB r) = Lib.runeCells r := Lib.byteCells_encodeRune r
theorem utfB_len (r : Nat) : (utfB r).length = (Lib.runeCells (r : Int)).length := by rw [← utfB_cells]; simp [Lib.byteCells]
set_option maxHeartbeats 8000000 in
set_option maxRecDepth 100000 in
theorem ar_one (v : Value) (l : List UInt8) (r : Nat) (hr : r ≤ 127) (w : World) (hown : w.ownsRowF 0 5 1 v l.length (Lib.byteCells l)) (hlen : l.length + 4 ≤ 140737488355328) :
  Calls Tryz.prog 199 #[v, .int .i32 r] w (ArPost w v l (utfB r)) := by
 have hc : Lib.runeCells (r : Int) = [.int .u8 r] := by simp [Lib.runeCells, Lib.encodeRuneZ_one (r := (r : Int)) (by omega) (by omega)]
 have hl : (utfB r).length = 1 := by rw [utfB_len, hc]; rfl
 obtain ⟨v', w', hrun, hp⟩ := ar_row v l (utfB r) #[.int .u8 r] (by rw [utfB_cells, hc]) w hown (by omega)
 rw [hl] at hrun
 have h127 : (r : Int) ≤ 127 := by omega
 go_enter Tryz.func199, Tryz.ntmps199
 go_wp2_with (at_builtin; refine wpList_row rfl _ _ 130 rfl _ rfl (.slice (some ⟨w.heap.size, 0, none⟩) 1 1) rfl hrun ?_)
 go_ret
 exact hp
set_option maxHeartbeats 8000000 in
set_option maxRecDepth 100000 in
theorem an_two (v : Value) (l : List UInt8) (r : Nat) (h0 : 128 ≤ r) (h1 : r ≤ 2047) (w : World) (hown : w.ownsRowF 0 5 1 v l.length (Lib.byteCells l)) (hlen : l.length + 4 ≤ 140737488355328) :
  Calls Tryz.prog 229 #[v, .int .i32 r] w (ArPost w v l (utfB r)) := by
 have hc : Lib.runeCells (r : Int) = [.int .u8 (192 + (r : Int) / 64), .int .u8 (128 + (r : Int) % 64)] := by simp [Lib.runeCells, Lib.encodeRuneZ_two (r := (r : Int)) (by omega) (by omega)]
 have hl : (utfB r).length = 2 := by rw [utfB_len, hc]; rfl
 obtain ⟨v', w', hrun, hp⟩ := ar_row v l (utfB r) #[.int .u8 (192 + (r : Int) / 64), .int .u8 (128 + (r : Int) % 64)] (by rw [utfB_cells, hc]) w hown (by omega)
 rw [hl] at hrun
 have z0 : (128 : Int) ≤ r := by omega
 have z1 : (r : Int) ≤ 1114111 := by omega
 have zz : (r : Int) ≤ 2047 := by omega
 go_enter Tryz.func229, Tryz.ntmps229
 go_wp2_with (at_builtin; refine wpList_row rfl _ _ 130 rfl _ rfl (.slice (some ⟨w.heap.size, 0, none⟩) 2 2) rfl hrun ?_)
 go_ret
 exact hp
set_option maxHeartbeats 8000000 in
set_option maxRecDepth 100000 in
theorem an_lo (v : Value) (l : List UInt8) (r : Nat) (h0 : 2048 ≤ r) (h1 : r < 55296) (w : World) (hown : w.ownsRowF 0 5 1 v l.length (Lib.byteCells l)) (hlen : l.length + 4 ≤ 140737488355328) :
  Calls Tryz.prog 229 #[v, .int .i32 r] w (ArPost w v l (utfB r)) := by
 have hc : Lib.runeCells (r : Int) = [.int .u8 (224 + (r : Int) / 4096), .int .u8 (128 + (r : Int) / 64 % 64), .int .u8 (128 + (r : Int) % 64)] := by simp [Lib.runeCells, Lib.encodeRuneZ_three (r := (r : Int)) (.inl ⟨by omega, by omega⟩)]
 have hl : (utfB r).length = 3 := by rw [utfB_len, hc]; rfl
 obtain ⟨v', w', hrun, hp⟩ := ar_row v l (utfB r) #[.int .u8 (224 + (r : Int) / 4096), .int .u8 (128 + (r : Int) / 64 % 64), .int .u8 (128 + (r : Int) % 64)] (by rw [utfB_cells, hc]) w hown (by omega)
 rw [hl] at hrun
 have z0 : (128 : Int) ≤ r := by omega
 have z1 : (r : Int) ≤ 1114111 := by omega
 have zz : 2048 ≤ (r : Int) ∧ (r : Int) < 55296 := by omega
 go_enter Tryz.func229, Tryz.ntmps229
 go_wp2_with (at_builtin; refine wpList_row rfl _ _ 130 rfl _ rfl (.slice (some ⟨w.heap.size, 0, none⟩) 3 3) rfl hrun ?_)
 go_ret
 exact hp
set_option maxHeartbeats 8000000 in
set_option maxRecDepth 100000 in
theorem an_hi (v : Value) (l : List UInt8) (r : Nat) (h0 : 57343 < r) (h1 : r ≤ 65535) (w : World) (hown : w.ownsRowF 0 5 1 v l.length (Lib.byteCells l)) (hlen : l.length + 4 ≤ 140737488355328) :
  Calls Tryz.prog 229 #[v, .int .i32 r] w (ArPost w v l (utfB r)) := by
 have hc : Lib.runeCells (r : Int) = [.int .u8 (224 + (r : Int) / 4096), .int .u8 (128 + (r : Int) / 64 % 64), .int .u8 (128 + (r : Int) % 64)] := by simp [Lib.runeCells, Lib.encodeRuneZ_three (r := (r : Int)) (.inr ⟨by omega, by omega⟩)]
 have hl : (utfB r).length = 3 := by rw [utfB_len, hc]; rfl
 obtain ⟨v', w', hrun, hp⟩ := ar_row v l (utfB r) #[.int .u8 (224 + (r : Int) / 4096), .int .u8 (128 + (r : Int) / 64 % 64), .int .u8 (128 + (r : Int) % 64)] (by rw [utfB_cells, hc]) w hown (by omega)
 rw [hl] at hrun
 have z1 : (57343 : Int) < r := by omega
 have z2 : (r : Int) ≤ 65535 := by omega
 clear hc hl h0 h1
 generalize (r : Int) = x at *
 go_enter Tryz.func229, Tryz.ntmps229
 go_wp2_with (at_builtin; refine wpList_row rfl _ _ 130 rfl _ rfl (.slice (some ⟨w.heap.size, 0, none⟩) 3 3) rfl hrun ?_)
 go_ret
 exact hp
set_option maxHeartbeats 8000000 in
set_option maxRecDepth 100000 in
theorem an_four (v : Value) (l : List UInt8) (r : Nat) (h0 : 65536 ≤ r) (h1 : r ≤ 1114111) (w : World) (hown : w.ownsRowF 0 5 1 v l.length (Lib.byteCells l)) (hlen : l.length + 4 ≤ 140737488355328) :
  Calls Tryz.prog 229 #[v, .int .i32 r] w (ArPost w v l (utfB r)) := by
 have hc : Lib.runeCells (r : Int) = [.int .u8 (240 + (r : Int) / 262144), .int .u8 (128 + (r : Int) / 4096 % 64), .int .u8 (128 + (r : Int) / 64 % 64), .int .u8 (128 + (r : Int) % 64)] := by simp [Lib.runeCells, Lib.encodeRuneZ_four (r := (r : Int)) (by omega) (by omega)]
 have hl : (utfB r).length = 4 := by rw [utfB_len, hc]; rfl
 obtain ⟨v', w', hrun, hp⟩ := ar_row v l (utfB r) #[.int .u8 (240 + (r : Int) / 262144), .int .u8 (128 + (r : Int) / 4096 % 64), .int .u8 (128 + (r : Int) / 64 % 64), .int .u8 (128 + (r : Int) % 64)] (by rw [utfB_cells, hc]) w hown (by omega)
 rw [hl] at hrun
 have z1 : (65536 : Int) ≤ r := by omega
 have z2 : (r : Int) ≤ 1114111 := by omega
 clear hc hl h0 h1
 generalize (r : Int) = x at *
 go_enter Tryz.func229, Tryz.ntmps229
 go_wp2_with (at_builtin; refine wpList_row rfl _ _ 130 rfl _ rfl (.slice (some ⟨w.heap.size, 0, none⟩) 4 4) rfl hrun ?_)
 go_ret
 exact hp
set_option maxHeartbeats 8000000 in
set_option maxRecDepth 100000 in
theorem ar_calls (v : Value) (l : List UInt8) (r : Nat) (hr : r < 55296 ∨ (57343 < r ∧ r ≤ 1114111)) (w : World) (hown : w.ownsRowF 0 5 1 v l.length (Lib.byteCells l)) (hlen : l.length + 4 ≤ 140737488355328) :
  Calls Tryz.prog 199 #[v, .int .i32 r] w (ArPost w v l (utfB r)) := by
 by_cases h : r ≤ 127
 ·exact ar_one v l r h w hown hlen
 ·have hh : Calls Tryz.prog 229 #[v, .int .i32 r] w (ArPost w v l (utfB r)) := by
   by_cases h1 : r ≤ 2047
   ·exact an_two v l r (by omega) h1 w hown hlen
   by_cases h2 : r < 55296
   ·exact an_lo v l r (by omega) h2 w hown hlen
   by_cases h3 : r ≤ 65535
   ·exact an_hi v l r (by omega) h3 w hown hlen
   ·exact an_four v l r (by omega) (by omega) w hown hlen
  have z0 : ¬ (r : Int) ≤ 127 := by omega
  have z1 : (r : Int) ≤ 1114111 := by omega
  go_enter Tryz.func199, Tryz.ntmps199
  go_wp2_with (go_at_call 229; refine hh.mono ?_; rintro e w1 ⟨v', rfl, hp⟩)
  go_ret
  exact ⟨v', rfl, hp⟩
set_option maxHeartbeats 4000000 in
set_option maxRecDepth 100000 in
theorem wr_calls (b : Nat) (p v : Value) (l : List UInt8) (r : Nat) (hr : r < 55296 ∨ (57343 < r ∧ r ≤ 1114111)) (w : World) (hb : w.heap[b]? = some (.cells #[p, v] 132 (0, 0))) (hp : p = .pointer none ∨ p = .pointer (some ⟨b, 0, none⟩))
  (hown : w.ownsRowF 0 5 1 v l.length (Lib.byteCells l)) (hne : v.ownBlock ≠ some b) (hlen : l.length + 4 ≤ 140737488355328) :
  Calls Tryz.prog 170 #[.pointer (some ⟨b, 0, none⟩), .int .i32 r] w fun e w' => e = .returned (.tuple #[.int .i64 (utfB r).length, .nilIface]) ∧
   ∃ v', w'.heap[b]? = some (.cells #[.pointer (some ⟨b, 0, none⟩), v'] 132 (0, 0)) ∧ w'.ownsRowF 0 5 1 v' (l.length + (utfB r).length) (Lib.byteCells (l ++ utfB r)) ∧
    (v'.ownBlock = v.ownBlock ∨ ∀ k, v'.ownBlock = some k → w.heap.size ≤ k) ∧ v'.ownBlock ≠ some b ∧
    w'.os = w.os ∧ w'.tape = w.tape ∧ w'.output = w.output ∧ w.heap.size ≤ w'.heap.size ∧ ∀ k, k < w.heap.size → k ≠ b → v.ownBlock ≠ some k → w'.heap[k]? = w.heap[k]? := by
 have hlt : b < w.heap.size := by
  rcases Nat.lt_or_ge b w.heap.size with h' | h'
  ·exact h'
  ·simp [Array.getElem?_eq_none h'] at hb
 have hu4 : (utfB r).length ≤ 4 := by rw [utfB_len]; exact (Lib.runeCells_le r).2
 have hcc := ccall b p v w hb hp
 obtain ⟨va, vc, rfl⟩ : ∃ va vc, v = .slice va l.length vc := by
  rcases hown.2 with ⟨hv, h0⟩ | ⟨g, cap, cur, fz, hv, _⟩
  ·exact ⟨none, 0, by rw [hv, h0]⟩
  ·exact ⟨_, _, hv⟩
 go_enter Tryz.func170, Tryz.ntmps170
 go_wp2_with (go_at_call 139; refine hcc.mono ?_)
 rintro e w1 ⟨rfl, hbk, ho1, ho2, ho3, hs1, hk1⟩
 have hown1 : w1.ownsRowF 0 5 1 (.slice va l.length vc) l.length (Lib.byteCells l) :=
  hown.kept (row := some b) ⟨ho1, ho2, ho3, by omega, fun k _ hk => hk1 k (fun e => hk (by simp [e]))⟩ (Or.inr hne)
 have c0 : w1.cell? ⟨b, 0, none⟩ = some (.pointer (some ⟨b, 0, none⟩)) := by rw [Lib.cell_of_heap hbk]; rfl
 have c1 : w1.cell? ⟨b, 1, none⟩ = some (.slice va l.length vc) := by rw [Lib.cell_of_heap hbk]; rfl
 have hlt1 : b < w1.heap.size := by omega
 go_wp2_with (go_at_call 199; refine (ar_calls _ l r hr w1 hown1 hlen).mono ?_)
 rintro e w2 ⟨v', rfl, hown', hat, q1, q2, q3, q4, q5⟩
 have hb2 : w2.heap[b]? = some (.cells #[.pointer (some ⟨b, 0, none⟩), .slice va l.length vc] 132 (0, 0)) := by
  rw [q5 b hlt1 hne]; exact hbk
 have d0 : w2.cell? ⟨b, 0, none⟩ = some (.pointer (some ⟨b, 0, none⟩)) := by rw [Lib.cell_of_heap hb2]; rfl
 have d1 : w2.cell? ⟨b, 1, none⟩ = some (.slice va l.length vc) := by rw [Lib.cell_of_heap hb2]; rfl
 have f1 : w2.frozen? ⟨b, 1, none⟩ = false := Lib.frozen_of_heap hb2 1
 have hne' : v'.ownBlock ≠ some b := by
  rcases hat with h | h
  ·rw [h]; exact hne
  ·intro e; have := h b e; omega
 obtain ⟨ao, cap, rfl⟩ : ∃ ao cap, v' = .slice ao (l.length + (utfB r).length) cap := by
  rcases hown'.2 with ⟨hv, h0⟩ | ⟨g, cap, cur, fz, hv, _⟩
  ·exact ⟨none, 0, by rw [hv, h0]⟩
  ·exact ⟨_, _, hv⟩
 go_wp2
 go_ret2
 refine ⟨?_, _, heap_setCell_same _ _ _ _ _ _ hb2, ?_, ?_, hne', q1.trans ho1, q2.trans ho2, q3.trans ho3, ?_, ?_⟩
 ·have : ((l.length : Int) + ((utfB r).length : Int) - l.length) = (utfB r).length := by omega
  simp [this]
 ·exact hown'.kept (row := some b) ⟨rfl, rfl, rfl, by simp, fun k _ hk => heap_setCell_other _ _ _ _ (fun e => hk (by simp [e]))⟩ (Or.inr hne')
 ·rcases hat with h | h
  ·exact .inl h
  ·exact .inr fun k hk => by have := h k hk; omega
 ·simp; omega
 ·intro k hk hkb hkv
  rw [heap_setCell_other _ _ _ _ hkb, q5 k (by omega) hkv, hk1 k hkb]
theorem wb_spec (nb nr gb gr : Nat) (l : List UInt8) (c : UInt8) (h1 : 900000 ≤ nb) (h2 : 900000 ≤ nr) (hd : nb ≠ nr) (hlen : l.length + 1 ≤ 140737488355328) :
  ACall Tryz.prog 89 [.ptr nb gb 0, dU c] [(nb, (gb, .bld 132 nr gr)), (nr, (gr, .brow 5 l))] [nb, nr] fun ps r => ∃ gr', ps = [(gb, .bld 132 nr gr'), (gr', .brow 5 (l ++ [c]))] ∧ r = .v .nilIface := by
 refine acall_bld (xs := [.int .u8 c.toNat]) (x := .nilIface) ⟨_, Tryz.func89, rfl, rfl⟩ h1 h2 hd (fun C w => .v _) fun b p v w _ hb hp hown hne => ?_
 refine (wb_calls b p v l c w hb hp hown hne hlen).mono ?_
 rintro e w' ⟨he, v', q1, q2, q3, q4, q5, q6, q7, q8, q9⟩
 exact ⟨he, _, v', q1, .inr rfl, by simpa using q2, q3, q4, q5, q6, q7, q8, q9⟩
theorem wr_spec (nb nr gb gr : Nat) (l : List UInt8) (r : Nat) (hr : r < 55296 ∨ (57343 < r ∧ r ≤ 1114111)) (h1 : 900000 ≤ nb) (h2 : 900000 ≤ nr) (hd : nb ≠ nr) (hlen : l.length + 4 ≤ 140737488355328) :
  ACall Tryz.prog 170 [.ptr nb gb 0, .v (.int .i32 r)] [(nb, (gb, .bld 132 nr gr)), (nr, (gr, .brow 5 l))] [nb, nr] fun ps q => ∃ gr', ps = [(gb, .bld 132 nr gr'), (gr', .brow 5 (l ++ utfB r))] ∧ q = .tup [dI (utfB r).length, .v .nilIface] := by
 refine acall_bld (xs := [.int .i32 r]) (x := .tuple #[.int .i64 (utfB r).length, .nilIface]) ⟨_, Tryz.func170, rfl, rfl⟩ h1 h2 hd (fun C w => ?_) fun b p v w _ hb hp hown hne => ?_
 ·refine .tup _ _ rfl fun j c u hc hu => ?_
  match j, hc, hu with
  | 0, hc, hu => simp at hc hu; subst hc hu; exact .v _
  | 1, hc, hu => simp at hc hu; subst hc hu; exact .v _
  | j + 2, hc, hu => simp at hc
 ·refine (wr_calls b p v l r hr w hb hp hown hne hlen).mono ?_
  rintro e w' ⟨he, v', q1, q2, q3, q4, q5, q6, q7, q8, q9⟩
  exact ⟨he, _, v', q1, .inr rfl, by simpa using q2, q3, q4, q5, q6, q7, q8, q9⟩
end Go.Proofs.YtkgmecjaejaehaaGreatDoor
namespace Go.Proofs.YtkgmecjaejaehaaGreatDoor
open Go.Eng Go.Js
set_option maxRecDepth 20000
attribute [local irreducible] AG CallA CallT AWp PCall ACall XCall AgC
@[go_sem] abbrev blE (gb gr : Nat) (l : Bs) : List (Nat × (Nat × Blk)) := [(900004, (gb, .bld 132 900005 gr)), (900005, (gr, .brow 5 l))]
set_option maxHeartbeats 4000000 in
theorem escape_spec (g gb gr : Nat) (s l : Bs) (a n : Nat) (hl : s.length ≤ 1000000) (ha : a < s.length) (hll : l.length ≤ 10000000) : XCall Tryz.prog 129 [pR g, .ptr 900004 gb 0] (rdE g s a n ++ blE gb gr l) [900002, 900004, 900005]
  (fun ps _ => ∃ q gr', escV s a = .ok q ∧ ps = [(g, .box [dS s, dI q.2, dI n]), (gb, .bld 132 900005 gr'), (gr', .brow 5 (l ++ q.1))]) (XE (escV s a)) := by
 refine xcall_of Tryz.func129 rfl rfl Tryz.ntmps129 (rs := []) (tys := []) rfl rfl (by simp) (by simp [notFroz]) fun hp hpan => ?_
 unfold escV at hpan ⊢
 refine awp_seq_k fun K1 hK1 => ?_
 ((refine awp_dr (.qs [0, 1, 2, 5, 6, 7, 3, 4, 8, 9, 10] (.nil)) (by kernel_rfl) ?_ ?_ ?_ ?_); (kernel_rfl); (exact (by decide +kernel)); (kernel_rfl); intro Y Yh; ((repeat' (first|(refine ag_x ?_;simp [go_sem])|refine adr_nil ?_|((first|refine adr_qs fun Y Yh=>?_|refine adr_y fun Y Yh=>?_);simp [go_sem])|intro _|apply And.intro|(apply Yh;clear Yh Y)));all_goals first|apply Hold.mk|omega|with_reducible assumption|skip))
 (refine awp_if fun T F hT hF => ?_; simp [go_sem]; refine BR.intro (fun h6 => hT ?_) (fun h6 => hF ?_); all_goals clear hT hF T F; try simp at h6)
 ·rw [List.getElem?_eq_none (by omega)] at hpan
  (refine awp_r fun Y Yh => ?_; simp [go_sem]; ((repeat' (first|(refine ag_x ?_;simp [go_sem])|intro _|apply And.intro|(apply Yh;clear Yh Y)));all_goals first|apply Hold.mk|omega|with_reducible assumption|skip))
  (refine callA_x [900002] (by first|exact .inl ⟨rfl,rfl⟩|exact .inr rfl) (by simp [go_sem]) ?_; intro args ha; simp [go_sem] at ha; subst ha; exact ⟨_, _, _, (fail_spec g s a n s.length (by omega)), (by simp [go_sem]), (fun ch h => hpan _ ⟨_, rfl, by rw [h]; simp [failP, failE]⟩), fun _ _ _ h => h.elim⟩)
 ·have hlt : a + 1 < s.length := by omega
  have hgs : s[a + 1]? = some s[a + 1] := List.getElem?_eq_getElem hlt
  have e2 : ((a : Int) + 1).toNat = a + 1 := by omega
  rw [hgs] at hpan
  rw [hgs] at hK1
  generalize s[a + 1] = c at hgs hpan hK1
  simp only at hpan hK1
  refine awp_skip ?_
  refine hK1 _ ?_; clear hK1
  ((refine awp_dr (.qs [0, 1, 2, 4, 5, 6, 3, 7, 8, 9, 10] (.nil)) (by kernel_rfl) ?_ ?_ ?_ ?_); (kernel_rfl); (exact (by decide +kernel)); (kernel_rfl); intro Y Yh; ((repeat' (first|(refine ag_x ?_;simp [go_sem, e2, hgs])|refine adr_nil ?_|((first|refine adr_qs fun Y Yh=>?_|refine adr_y fun Y Yh=>?_);simp [go_sem, e2, hgs])|intro _|apply And.intro|(apply Yh;clear Yh Y)));all_goals first|apply Hold.mk|omega|with_reducible assumption|skip))
  refine awp_seq_k fun K2 hK2 => ?_
  (refine awp_sr fun Y Yh => ?_; simp [go_sem]; ((repeat' (first|(refine ag_x ?_;simp [go_sem])|intro _|apply And.intro|(apply Yh;clear Yh Y)));all_goals first|apply Hold.mk|omega|with_reducible assumption|skip))
  (refine awp_if fun T F hT hF => ?_; simp [go_sem]; refine BR.intro (fun h3 => hT ?_) (fun h3 => hF ?_); all_goals clear hT hF T F; try simp at h3)
  ·have hc : c = 117 := (u8i c 117).1 (h3.trans rfl)
   rw [if_pos hc] at hpan
   (refine awp_sr fun Y Yh => ?_; simp [go_sem]; ((repeat' (first|(refine ag_x ?_;simp [go_sem])|intro _|apply And.intro|(apply Yh;clear Yh Y)));all_goals first|apply Hold.mk|omega|with_reducible assumption|skip))
   (refine callA_x [900002] (by first|exact .inl ⟨rfl,rfl⟩|exact .inr rfl) (by simp [go_sem]) ?_; intro args ha; simp [go_sem] at ha; subst ha; refine ⟨_, _, _, (wide_spec g s a n hl (by omega)), (by simp [go_sem]), (fun ch ⟨q, h1, h2⟩ => hpan _ ⟨q, by rw [h1], h2⟩), ?_⟩; rintro ps r hps ⟨⟨u, b⟩, hw, rfl, rfl⟩; simp [go_sem]; ((repeat' (first|(refine ag_x ?_;simp [go_sem])|intro _|apply And.intro|(apply Yh;clear Yh Y)));all_goals first|apply Hold.mk|omega|with_reducible assumption|skip))
   have hru := wideV_rune hw
   (refine callA_l [900004, 900005] (by first|exact .inl ⟨rfl,rfl⟩|exact .inr rfl) (by simp [go_sem]) ?_; intro args ha; simp [go_sem] at ha; subst ha; refine ⟨_, _, (wr_spec 900004 900005 gb gr l u hru (by omega) (by omega) (by omega) (by omega)), (by simp [go_sem]), ?_⟩; rintro ps r hps ⟨gr2, rfl, rfl⟩; simp [go_sem]; ((repeat' (first|(refine ag_x ?_;simp [go_sem])|intro _|apply And.intro|(apply Yh;clear Yh Y)));all_goals first|apply Hold.mk|omega|with_reducible assumption|skip))
   (refine awp_ret ?_; simp [go_sem, retA])
   rw [if_pos hc, hw]
   exact ⟨_, _, rfl, rfl, rfl⟩
  ·have hc : ¬ c = 117 := fun h => by rw [h] at h3; exact h3 rfl
   rw [if_neg hc] at hpan
   rw [if_neg hc] at hK2
   obtain ⟨x1, x2, x3⟩ := escC_idx c
   refine awp_skip ?_
   refine hK2 _ ?_; clear hK2
   (refine awp_sr fun Y Yh => ?_; simp [go_sem]; ((repeat' (first|(refine ag_x ?_;simp [go_sem])|intro _|apply And.intro|(apply Yh;clear Yh Y)));all_goals first|apply Hold.mk|omega|with_reducible assumption|skip))
   ((try refine CallT.toA ?_); refine callT_m (by first|exact .inl ⟨rfl,rfl⟩|exact .inr rfl) (by simp [go_sem]) ?_; intro args ha; simp [go_sem] at ha; subst ha; refine ⟨_, (idxB_spec escS c), ?_⟩; rintro _ rfl; simp [go_sem]; ((repeat' (first|(refine ag_x ?_;simp [go_sem])|intro _|apply And.intro|(apply Yh;clear Yh Y)));all_goals first|apply Hold.mk|omega|with_reducible assumption|skip))
   refine awp_seq_k fun K4 hK4 => ?_
   (refine awp_sr fun Y Yh => ?_; simp [go_sem]; ((repeat' (first|(refine ag_x ?_;simp [go_sem])|intro _|apply And.intro|(apply Yh;clear Yh Y)));all_goals first|apply Hold.mk|omega|with_reducible assumption|skip))
   by_cases hi : idxV escS c < 0
   ·rw [if_pos hi] at x1
    rw [x1] at hpan
    (refine awp_if fun T F hT hF => ?_; simp [go_sem, hi]; refine hT ?_; clear hT hF T F)
    (refine awp_r fun Y Yh => ?_; simp [go_sem]; ((repeat' (first|(refine ag_x ?_;simp [go_sem])|intro _|apply And.intro|(apply Yh;clear Yh Y)));all_goals first|apply Hold.mk|omega|with_reducible assumption|skip))
    (refine callA_x [900002] (by first|exact .inl ⟨rfl,rfl⟩|exact .inr rfl) (by simp [go_sem]) ?_; intro args ha; simp [go_sem] at ha; subst ha; exact ⟨_, _, _, (fail_spec g s a n a (by omega)), (by simp [go_sem]), (fun ch h => hpan _ ⟨_, rfl, h⟩), fun _ _ _ h => h.elim⟩)
   ·rw [if_neg hi] at x1
    obtain ⟨k, hk⟩ : ∃ k : Nat, idxV escS c = k := Int.eq_ofNat_of_zero_le (show 0 ≤ idxV escS c by omega)
    rw [hk] at x1 x3 ⊢
    have hk8 : k < escT.length := by show k < 8; omega
    have hke : escT[k]? = some escT[k] := List.getElem?_eq_getElem hk8
    simp only [Int.toNat_natCast] at x1
    rw [x1, hke] at hpan
    simp only at hpan
    have hn0 : ¬ (k : Int) < 0 := by omega
    (refine awp_if fun T F hT hF => ?_; simp [go_sem, hn0]; refine hF ?_; clear hT hF T F)
    refine awp_skip ?_
    refine hK4 _ ?_; clear hK4
    rw [x1, hke]
    have hke2 : ([34, 92, 47, 8, 12, 10, 13, 9] : List UInt8)[k]? = some escT[k] := hke
    (refine awp_sr fun Y Yh => ?_; simp [go_sem, hke2]; ((repeat' (first|(refine ag_x ?_;simp [go_sem, hke2])|intro _|apply And.intro|(apply Yh;clear Yh Y)));all_goals first|apply Hold.mk|omega|with_reducible assumption|skip))
    (refine callA_l [900004, 900005] (by first|exact .inl ⟨rfl,rfl⟩|exact .inr rfl) (by simp [go_sem]) ?_; intro args ha; simp [go_sem] at ha; subst ha; refine ⟨_, _, (wb_spec 900004 900005 gb gr l escT[k] (by omega) (by omega) (by omega) (by omega)), (by simp [go_sem]), ?_⟩; rintro ps r hps ⟨gr2, rfl, rfl⟩; simp [go_sem]; ((repeat' (first|(refine ag_x ?_;simp [go_sem])|intro _|apply And.intro|(apply Yh;clear Yh Y)));all_goals first|apply Hold.mk|omega|with_reducible assumption|skip))
    (refine awp_r fun Y Yh => ?_; simp [go_sem]; ((repeat' (first|(refine ag_x ?_;simp [go_sem])|intro _|apply And.intro|(apply Yh;clear Yh Y)));all_goals first|apply Hold.mk|omega|with_reducible assumption|skip))
    simp [retA, go_sem]
set_option maxHeartbeats 8000000 in
theorem str_read (g : Nat) (s : Bs) (a n : Nat) (hl : s.length ≤ 1000000) (ha : a < s.length) : XCall Tryz.prog 77 [pR g] (rdE g s a n) [900002]
  (fun ps r => ∃ q, strV s a = .ok q ∧ r = dS q.1 ∧ ps = [(g, .box [dS s, dI q.2, dI n])]) (XE (strV s a)) := by
 refine xcall_of Tryz.func77 rfl rfl Tryz.ntmps77 (rs := [.tmp 2]) (tys := [9]) rfl rfl (by simp) (by simp [notFroz]) fun hp hpan => ?_
 (refine awp_sr fun Y Yh => ?_; simp [go_sem]; ((repeat' (first|(refine ag_x ?_;simp [go_sem])|intro _|apply And.intro|(apply Yh;clear Yh Y)));all_goals first|apply Hold.mk|omega|with_reducible assumption|skip))
 (refine awp_sr fun Y Yh => ?_; simp [go_sem]; ((repeat' (first|(refine ag_x ?_;simp [go_sem])|intro _|apply And.intro|(apply Yh;clear Yh Y)));all_goals first|apply Hold.mk|omega|with_reducible assumption|skip))
 refine awp_bld 132 5 900004 900005 (by decide) (by decide) (by kernel_rfl) fun gb gr => ?_
 refine awp_block ?_
 refine awp_loop (σ := Nat × Bs × Nat) (fun x => ⟨[(0, pR g), (3, .ptr 900004 gb 0)], rdE g s x.1 n ++ blE gb x.2.2 x.2.1⟩)
  (fun x => x.1 ≤ s.length ∧ x.2.1.length ≤ 4 * x.1 ∧ ∃ f, s.length - x.1 < f ∧ strG s f x.1 x.2.1 = strV s a) (fun x => s.length - x.1) (a + 1, [], gr) ?_ ⟨by simp only; omega, by simp, s.length + 1, by simp only; omega, rfl⟩ ?_
 ·(refine cov_of ?_ ?_ <;> simp [go_sem])
 rintro ⟨b, acc, gc⟩ ⟨hb, hac, f, hf, hfe⟩
 simp only at hb hac hf hfe ⊢
 obtain ⟨f, rfl⟩ : ∃ f', f = f' + 1 := ⟨f - 1, by omega⟩
 rw [strG] at hfe
 refine awp_block ?_
 refine awp_seq_k fun K1 hK1 => ?_
 ((refine awp_dr (.qs [0, 1, 2, 4, 5, 6, 3, 7, 8, 9] (.nil)) (by kernel_rfl) ?_ ?_ ?_ ?_); (kernel_rfl); (exact (by decide +kernel)); (kernel_rfl); intro Y Yh; ((repeat' (first|(refine ag_x ?_;simp [go_sem])|refine adr_nil ?_|((first|refine adr_qs fun Y Yh=>?_|refine adr_y fun Y Yh=>?_);simp [go_sem])|intro _|apply And.intro|(apply Yh;clear Yh Y)));all_goals first|apply Hold.mk|omega|with_reducible assumption|skip))
 (refine awp_if fun T F hT hF => ?_; simp [go_sem]; refine BR.intro (fun h7 => hT ?_) (fun h7 => hF ?_); all_goals clear hT hF T F; try simp at h7)
 ·rw [List.getElem?_eq_none (by omega)] at hfe
  (refine awp_r fun Y Yh => ?_; simp [go_sem]; ((repeat' (first|(refine ag_x ?_;simp [go_sem])|intro _|apply And.intro|(apply Yh;clear Yh Y)));all_goals first|apply Hold.mk|omega|with_reducible assumption|skip))
  (refine callA_x [900002] (by first|exact .inl ⟨rfl,rfl⟩|exact .inr rfl) (by simp [go_sem]) ?_; intro args ha; simp [go_sem] at ha; subst ha; exact ⟨_, _, _, (fail_spec g s b n b (by omega)), (by simp [go_sem]), (fun ch h => hpan _ ⟨_, hfe.symm, by rw [h]; simp [failP, failE, h7]⟩), fun _ _ _ h => h.elim⟩)
 ·have hlt : b < s.length := by omega
  have hgs : s[b]? = some s[b] := List.getElem?_eq_getElem hlt
  rw [hgs] at hfe
  simp only at hfe
  refine awp_skip ?_
  refine hK1 _ ?_; clear hK1
  ((refine awp_dr (.qs [0, 1, 2, 4, 5, 6, 3, 7, 8, 9] (.nil)) (by kernel_rfl) ?_ ?_ ?_ ?_); (kernel_rfl); (exact (by decide +kernel)); (kernel_rfl); intro Y Yh; ((repeat' (first|(refine ag_x ?_;simp [go_sem, hgs])|refine adr_nil ?_|((first|refine adr_qs fun Y Yh=>?_|refine adr_y fun Y Yh=>?_);simp [go_sem, hgs])|intro _|apply And.intro|(apply Yh;clear Yh Y)));all_goals first|apply Hold.mk|omega|with_reducible assumption|skip))
  refine awp_block ?_
  (refine awp_sr fun Y Yh => ?_; simp [go_sem]; ((repeat' (first|(refine ag_x ?_;simp [go_sem])|intro _|apply And.intro|(apply Yh;clear Yh Y)));all_goals first|apply Hold.mk|omega|with_reducible assumption|skip))
  (refine awp_if fun T F hT hF => ?_; simp [go_sem]; refine BR.intro (fun h2 => hT ?_) (fun h2 => hF ?_); all_goals clear hT hF T F; try simp at h2)
  ·rw [if_pos ((u8i _ 34).1 (h2.trans rfl))] at hfe
   (refine awp_sr fun Y Yh => ?_; simp [go_sem]; ((repeat' (first|(refine ag_x ?_;simp [go_sem])|intro _|apply And.intro|(apply Yh;clear Yh Y)));all_goals first|apply Hold.mk|omega|with_reducible assumption|skip))
   (refine awp_sr fun Y Yh => ?_; simp [go_sem]; ((repeat' (first|(refine ag_x ?_;simp [go_sem])|intro _|apply And.intro|(apply Yh;clear Yh Y)));all_goals first|apply Hold.mk|omega|with_reducible assumption|skip))
   (refine callA_l [900004, 900005] (by first|exact .inl ⟨rfl,rfl⟩|exact .inr rfl) (by simp [go_sem]) ?_; intro args ha; simp [go_sem] at ha; subst ha; refine ⟨_, _, (strA_spec 900004 900005 gb gc acc (by omega) (by omega) (by omega)), (by simp [go_sem]), ?_⟩; rintro ps r hps ⟨gr2, rfl, rfl⟩; simp [go_sem]; ((repeat' (first|(refine ag_x ?_;simp [go_sem])|intro _|apply And.intro|(apply Yh;clear Yh Y)));all_goals first|apply Hold.mk|omega|with_reducible assumption|skip))
   (refine awp_ret ?_; simp [go_sem, retA])
   exact ⟨acc, b + 1, hfe.symm, rfl, by simp⟩
  ·rw [if_neg (fun q => by rw [q] at h2; exact h2 rfl)] at hfe
   (refine awp_sr fun Y Yh => ?_; simp [go_sem]; ((repeat' (first|(refine ag_x ?_;simp [go_sem])|intro _|apply And.intro|(apply Yh;clear Yh Y)));all_goals first|apply Hold.mk|omega|with_reducible assumption|skip))
   (refine awp_if fun T F hT hF => ?_; simp [go_sem]; refine BR.intro (fun h3 => hT ?_) (fun h3 => hF ?_); all_goals clear hT hF T F; try simp at h3)
   ·rw [if_pos ((u8i _ 92).1 (h3.trans rfl))] at hfe
    (refine awp_r fun Y Yh => ?_; simp [go_sem]; ((repeat' (first|(refine ag_x ?_;simp [go_sem])|intro _|apply And.intro|(apply Yh;clear Yh Y)));all_goals first|apply Hold.mk|omega|with_reducible assumption|skip))
    (refine callA_x [900002, 900004, 900005] (by first|exact .inl ⟨rfl,rfl⟩|exact .inr rfl) (by simp [go_sem]) ?_; intro args ha; simp [go_sem] at ha; subst ha; refine ⟨_, _, _, (escape_spec g gb gc s acc b n hl hlt (by omega)), (by simp [go_sem]), (fun ch ⟨q, h1, h2⟩ => hpan _ ⟨q, by rw [← hfe, h1], h2⟩), ?_⟩; rintro ps r hps ⟨q, gr2, hq, rfl⟩; simp [go_sem]; ((repeat' (first|(refine ag_x ?_;simp [go_sem])|intro _|apply And.intro|(apply Yh;clear Yh Y)));all_goals first|apply Hold.mk|omega|with_reducible assumption|skip))
    rw [hq] at hfe
    have h4 := escV_le hq
    have h5 := escV_len hq
    refine ⟨(q.2, acc ++ q.1, gr2), ?_, ⟨h4.2, by simp; omega, f, by simp only; omega, hfe⟩, by simp only; omega⟩
    (refine cov_of ?_ ?_ <;> simp [go_sem])
   ·rw [if_neg (fun q => by rw [q] at h3; exact h3 rfl)] at hfe
    (refine awp_sr fun Y Yh => ?_; simp [go_sem]; ((repeat' (first|(refine ag_x ?_;simp [go_sem])|intro _|apply And.intro|(apply Yh;clear Yh Y)));all_goals first|apply Hold.mk|omega|with_reducible assumption|skip))
    (refine awp_if fun T F hT hF => ?_; simp [go_sem]; refine BR.intro (fun h4 => hT ?_) (fun h4 => hF ?_); all_goals clear hT hF T F; try simp at h4)
    ·rw [if_pos (by rw [UInt8.lt_iff_toNat_lt]; have : (32 : UInt8).toNat = 32 := rfl; omega)] at hfe
     (refine awp_r fun Y Yh => ?_; simp [go_sem]; ((repeat' (first|(refine ag_x ?_;simp [go_sem])|intro _|apply And.intro|(apply Yh;clear Yh Y)));all_goals first|apply Hold.mk|omega|with_reducible assumption|skip))
     (refine callA_x [900002] (by first|exact .inl ⟨rfl,rfl⟩|exact .inr rfl) (by simp [go_sem]) ?_; intro args ha; simp [go_sem] at ha; subst ha; exact ⟨_, _, _, (fail_spec g s b n b (by omega)), (by simp [go_sem]), (fun ch h => hpan _ ⟨_, hfe.symm, h⟩), fun _ _ _ h => h.elim⟩)
    ·rw [if_neg (by rw [UInt8.lt_iff_toNat_lt]; have : (32 : UInt8).toNat = 32 := rfl; omega)] at hfe
     have hne : s.drop b ≠ [] := by simp; omega
     have hdl := decL_le hne
     rw [List.length_drop] at hdl
     ((refine awp_dr (.qs [0, 1, 2, 4, 5, 6, 3, 7, 8] (.one 9 (.qs [10, 11, 12, 13, 14] (.nil)))) (by kernel_rfl) ?_ ?_ ?_ ?_); (kernel_rfl); (exact (by decide +kernel)); (kernel_rfl); intro Y Yh; ((repeat' (first|(refine ag_x ?_;simp [go_sem])|refine adr_nil ?_|((first|refine adr_qs fun Y Yh=>?_|refine adr_y fun Y Yh=>?_);simp [go_sem])|intro _|apply And.intro|(apply Yh;clear Yh Y)));all_goals first|apply Hold.mk|omega|with_reducible assumption|skip))
     ((try refine CallT.toA ?_); refine callT_m (by first|exact .inl ⟨rfl,rfl⟩|exact .inr rfl) (by simp [go_sem]) ?_; intro args ha; simp [go_sem] at ha; subst ha; refine ⟨_, (decode_spec _ hne), ?_⟩; rintro _ rfl; simp [go_sem]; ((repeat' (first|(refine ag_x ?_;simp [go_sem])|refine adr_nil ?_|((first|refine adr_qs fun Y Yh=>?_|refine adr_y fun Y Yh=>?_);simp [go_sem])|intro _|apply And.intro|(apply Yh;clear Yh Y)));all_goals first|apply Hold.mk|omega|with_reducible assumption|skip))
     generalize hdq : Lib.decodeL (s.drop b) = dq at hfe hdl ⊢
     obtain ⟨x, k⟩ := dq
     simp only at hfe hdl ⊢
     refine awp_seq_k fun K5 hK5 => ?_
     (refine awp_sr fun Y Yh => ?_; simp [go_sem]; ((repeat' (first|(refine ag_x ?_;simp [go_sem])|intro _|apply And.intro|(apply Yh;clear Yh Y)));all_goals first|apply Hold.mk|omega|with_reducible assumption|skip))
     (refine awp_if fun T F hT hF => ?_; simp [go_sem]; refine BR.intro (fun h5 => hT ?_) (fun h5 => hF ?_); all_goals clear hT hF T F; try simp at h5)
     ·rw [if_pos ⟨by omega, by omega⟩] at hfe
      (refine awp_r fun Y Yh => ?_; simp [go_sem]; ((repeat' (first|(refine ag_x ?_;simp [go_sem])|intro _|apply And.intro|(apply Yh;clear Yh Y)));all_goals first|apply Hold.mk|omega|with_reducible assumption|skip))
      (refine callA_x [900002] (by first|exact .inl ⟨rfl,rfl⟩|exact .inr rfl) (by simp [go_sem]) ?_; intro args ha; simp [go_sem] at ha; subst ha; exact ⟨_, _, _, (fail_spec g s b n b (by omega)), (by simp [go_sem]), (fun ch h => hpan _ ⟨_, hfe.symm, h⟩), fun _ _ _ h => h.elim⟩)
     ·rw [if_neg (by rintro ⟨q1, q2⟩; have := h5 (by omega); omega)] at hfe
      refine awp_skip ?_
      refine hK5 _ ?_; clear hK5
      have e1 : ((b : Int) + k).toNat = b + k := by omega
      have htk : ((s.drop b).take k).length = k := by simp; omega
      ((refine awp_dr (.qs [0, 1, 2, 4, 5, 6, 8, 9, 10, 12, 3, 7, 11, 13, 14] (.one 15 (.nil))) (by kernel_rfl) ?_ ?_ ?_ ?_); (kernel_rfl); (exact (by decide +kernel)); (kernel_rfl); intro Y Yh; ((repeat' (first|(refine ag_x ?_;simp [go_sem, e1, ba_cut])|refine adr_nil ?_|((first|refine adr_qs fun Y Yh=>?_|refine adr_y fun Y Yh=>?_);simp [go_sem, e1, ba_cut])|intro _|apply And.intro|(apply Yh;clear Yh Y)));all_goals first|apply Hold.mk|omega|with_reducible assumption|skip))
      (refine callA_l [900004, 900005] (by first|exact .inl ⟨rfl,rfl⟩|exact .inr rfl) (by simp [go_sem]) ?_; intro args ha; simp [go_sem] at ha; subst ha; refine ⟨_, _, (ws_spec 900004 900005 gb gc acc ((s.drop b).take k) (by omega) (by omega) (by omega) (by omega)), (by simp [go_sem]), ?_⟩; rintro ps r hps ⟨gr2, rfl, rfl⟩; simp [go_sem]; ((repeat' (first|(refine ag_x ?_;simp [go_sem])|refine adr_nil ?_|((first|refine adr_qs fun Y Yh=>?_|refine adr_y fun Y Yh=>?_);simp [go_sem])|intro _|apply And.intro|(apply Yh;clear Yh Y)));all_goals first|apply Hold.mk|omega|with_reducible assumption|skip))
      (refine awp_r fun Y Yh => ?_; simp [go_sem]; ((repeat' (first|(refine ag_x ?_;simp [go_sem])|intro _|apply And.intro|(apply Yh;clear Yh Y)));all_goals first|apply Hold.mk|omega|with_reducible assumption|skip))
      refine ⟨(b + k, acc ++ (s.drop b).take k, gr2), ?_, ⟨by simp only; omega, by simp; omega, f, by simp only; omega, hfe⟩, by simp only; omega⟩
      (refine cov_of ?_ ?_ <;> simp [go_sem])
def XR (r : Rs JV) (ch : List PanicEntry) : Prop := ∃ p e, r = .bad p e ∧ ch = fP p e
def ValOk (s : Bs) (f : Nat) : Prop := ∀ g d a n : Nat, a ≤ s.length → 2 * (s.length - a) < f → d ≤ 51 → n ≤ 2000 →
 XCall Tryz.prog 38 [pR g, dI d] (rdE g s a n) [900002] (fun ps r => ∃ v b m, valV s (numR s) f d a n = .ok v b m ∧ r = dJ v ∧ ps = [(g, .box [dS s, dI b, dI m])]) (XR (valV s (numR s) f d a n))
def lstR (s : Bs) (f d b n : Nat) : Rs JV :=
 match s[blV s (b + 1)]? with
 | none => .bad s.length 14
 | some c2 => if c2 = 93 then .ok (.mk 5 [] [] []) (blV s (b + 1) + 1) n else listV s (numR s) f d (blV s (b + 1)) n []
set_option maxHeartbeats 8000000 in
theorem list_read (g : Nat) (s : Bs) (f d b n : Nat) (hl : s.length ≤ 1000000) (hb : b < s.length) (hd : d ≤ 50) (hn : n ≤ 2000) (hf : 2 * (s.length - b) ≤ f) (H : ∀ f' < f, ValOk s f') : XCall Tryz.prog 78 [pR g, dI d] (rdE g s b n) [900002]
  (fun ps r => ∃ v a m, lstR s f d b n = .ok v a m ∧ r = dJ v ∧ ps = [(g, .box [dS s, dI a, dI m])]) (XR (lstR s f d b n)) := by
 refine xcall_of Tryz.func78 rfl rfl Tryz.ntmps78 (rs := [.cell 4 26]) (tys := [26]) rfl rfl (by simp) (by simp [notFroz]) fun hp hpan => ?_
 unfold lstR at hpan ⊢
 have hb1 := blV_le (s := s) (a := b + 1) (by omega)
 have hb2 := blV_ge s (b + 1)
 refine awp_seq ?_
 refine awp_r fun Y Yh => ?_
 simp [go_sem]
 intro g4
 apply Yh; clear Yh Y
 refine Hold.mk ?_
 refine awp_seq ?_
 refine awp_r fun Y Yh => ?_
 simp [go_sem]
 intro g5
 apply Yh; clear Yh Y
 refine Hold.mk ?_
 (refine awp_sr fun Y Yh => ?_; simp [go_sem]; ((repeat' (first|(refine ag_x ?_;simp [go_sem])|intro _|apply And.intro|(apply Yh;clear Yh Y)));all_goals first|apply Hold.mk|omega|with_reducible assumption|skip))
 refine awp_seq_k fun K1 hK1 => ?_
 (refine awp_sr fun Y Yh => ?_; simp [go_sem]; ((repeat' (first|(refine ag_x ?_;simp [go_sem])|intro _|apply And.intro|(apply Yh;clear Yh Y)));all_goals first|apply Hold.mk|omega|with_reducible assumption|skip))
 (refine callA_x [900002] (by first|exact .inl ⟨rfl,rfl⟩|exact .inr rfl) (by simp [go_sem]) ?_; intro args ha; simp [go_sem] at ha; subst ha; refine ⟨_, _, _, (peek_spec g s (b + 1) n (by omega) (by omega)), (by simp [go_sem]), (fun ch h => hpan _ ⟨_, _, by rw [List.getElem?_eq_none h.1], h.2⟩), ?_⟩; rintro ps r hps ⟨c, hc, rfl, rfl⟩; simp [go_sem]; ((repeat' (first|(refine ag_x ?_;simp [go_sem])|intro _|apply And.intro|(apply Yh;clear Yh Y)));all_goals first|apply Hold.mk|omega|with_reducible assumption|skip))
 rw [hc] at hpan hK1 ⊢
 simp only at hpan hK1 ⊢
 have hlt := get_lt hc
 generalize blV s (b + 1) = b2 at hb1 hb2 hc hlt hpan hK1 ⊢
 (refine awp_if fun T F hT hF => ?_; simp [go_sem]; refine BR.intro (fun h2 => hT ?_) (fun h2 => hF ?_); all_goals clear hT hF T F; try simp at h2)
 ·have hc2 : c = 93 := (u8i c 93).1 (h2.trans rfl)
  rw [if_pos hc2]
  (refine awp_sr fun Y Yh => ?_; simp [go_sem]; ((repeat' (first|(refine ag_x ?_;simp [go_sem])|intro _|apply And.intro|(apply Yh;clear Yh Y)));all_goals first|apply Hold.mk|omega|with_reducible assumption|skip))
  (refine awp_sr fun Y Yh => ?_; simp [go_sem]; ((repeat' (first|(refine ag_x ?_;simp [go_sem])|intro _|apply And.intro|(apply Yh;clear Yh Y)));all_goals first|apply Hold.mk|omega|with_reducible assumption|skip))
  (refine awp_ret ?_; simp [go_sem, retA])
  exact ⟨_, _, _, ⟨rfl, rfl, rfl⟩, by simp [dJ_mk], by simp, rfl⟩
 ·have hc2 : ¬ c = 93 := fun q => by rw [q] at h2; exact h2 rfl
  rw [if_neg hc2] at hpan hK1
  refine awp_skip ?_
  refine hK1 _ ?_; clear hK1
  simp only [go_sem]
  refine awp_nilbox 33 26 4 3 (sb := 5) rfl rfl (by decide) fun gi => ?_
  simp only [go_sem, List.set_cons_succ, List.set_cons_zero]
  refine awp_block ?_
  refine awp_loop (σ := Nat × Nat × List JV × Nat) (fun x => ⟨[(0, pR g), (1, dI d), (4, .ptr 4 g4 0), (5, .ptr 5 g5 0)], [(4, (g4, .box [dI 0, dS [], .v (.slice none 0 0), .v (.slice none 0 0)])), (5, (g5, .box [dI 5, dS [], .v (.slice none 0 0), .own 33 x.2.2.2])), (33, (x.2.2.2, .row 26 4 (x.2.2.1.map cJ)))] ++ rdE g s x.1 x.2.1⟩)
   (fun x => x.1 ≤ s.length ∧ x.2.1 ≤ 2000 ∧ x.2.2.1.length ≤ 2000 ∧ x.2.2.1.length ≤ x.2.1 ∧ ∃ f', f' ≤ f ∧ 2 * (s.length - x.1) + 1 < f' ∧ listV s (numR s) f' d x.1 x.2.1 x.2.2.1 = listV s (numR s) f d b2 n [])
   (fun x => s.length - x.1) (b2, n, [], gi) ?_ ⟨hb1, hn, by simp, by simp, f, Nat.le_refl _, by simp only; omega, rfl⟩ ?_
  ·(refine cov_of ?_ ?_ <;> simp [go_sem])
  rintro ⟨a, m, acc, gr⟩ ⟨ha, hm, hac, ham, f', hff, hf', he⟩
  simp only at ha hm hac ham hff hf' he ⊢
  obtain ⟨f', rfl⟩ : ∃ k, f' = k + 1 := ⟨f' - 1, by omega⟩
  have HV := H f' (by omega) g (d + 1) a m ha (by omega) (by omega) hm
  rw [listV] at he
  refine awp_block ?_
  refine awp_seq_k fun K2 hK2 => ?_
  have tl2 : ∀ v b m', valV s (numR s) f' (d + 1) a m = .ok v b m' → ∀ gr' S', Cov S' ⟨[(0, pR g), (1, dI d), (4, .ptr 4 g4 0), (5, .ptr 5 g5 0)], [(4, (g4, .box [dI 0, dS [], .v (.slice none 0 0), .v (.slice none 0 0)])), (5, (g5, .box [dI 5, dS [], .v (.slice none 0 0), .own 33 gr'])), (33, (gr', .row 26 4 ((acc ++ [v]).map cJ)))] ++ rdE g s b m'⟩ → K2 S' := fun v b m' hv gr' S' hS => by
   refine hK2 _ ?_; clear hK2
   refine awp_cov hS ?_; clear hS
   have hvl := valV_le (fun _ _ => numR_le) hv
   have hp1 := blV_ge s b
   have hp2 := blV_le (s := s) (a := b) (by omega)
   rw [hv] at he
   simp only at he
   refine awp_seq_k fun K3 hK3 => ?_
   (refine awp_sr fun Y Yh => ?_; simp [go_sem]; ((repeat' (first|(refine ag_x ?_;simp [go_sem])|intro _|apply And.intro|(apply Yh;clear Yh Y)));all_goals first|apply Hold.mk|omega|with_reducible assumption|skip))
   (refine callA_x [900002] (by first|exact .inl ⟨rfl,rfl⟩|exact .inr rfl) (by simp [go_sem]) ?_; intro args ha; simp [go_sem] at ha; subst ha; refine ⟨_, _, _, (peek_spec g s b m' (by omega) (by omega)), (by simp [go_sem]), (fun ch h => hpan _ ⟨_, _, by rw [← he, List.getElem?_eq_none h.1], h.2⟩), ?_⟩; rintro ps r hps ⟨c3, hc3, rfl, rfl⟩; simp [go_sem]; ((repeat' (first|(refine ag_x ?_;simp [go_sem])|intro _|apply And.intro|(apply Yh;clear Yh Y)));all_goals first|apply Hold.mk|omega|with_reducible assumption|skip))
   rw [hc3] at he
   simp only at he
   have hlt3 := get_lt hc3
   (refine awp_if fun T F hT hF => ?_; simp [go_sem]; refine BR.intro (fun h4 => hT ?_) (fun h4 => hF ?_); all_goals clear hT hF T F; try simp at h4)
   ·have hc4 : c3 = 93 := (u8i c3 93).1 (h4.trans rfl)
    rw [if_pos hc4] at he
    (refine awp_sr fun Y Yh => ?_; simp [go_sem]; ((repeat' (first|(refine ag_x ?_;simp [go_sem])|intro _|apply And.intro|(apply Yh;clear Yh Y)));all_goals first|apply Hold.mk|omega|with_reducible assumption|skip))
    (refine awp_sr fun Y Yh => ?_; simp [go_sem]; ((repeat' (first|(refine ag_x ?_;simp [go_sem])|intro _|apply And.intro|(apply Yh;clear Yh Y)));all_goals first|apply Hold.mk|omega|with_reducible assumption|skip))
    (refine awp_ret ?_; simp [go_sem, retA])
    exact ⟨_, _, _, he.symm, by simp [dJ_mk], by simp, rfl⟩
   ·have hc4 : ¬ c3 = 93 := fun q => by rw [q] at h4; exact h4 rfl
    rw [if_neg hc4] at he
    refine awp_skip ?_
    refine hK3 _ ?_; clear hK3
    (refine awp_r fun Y Yh => ?_; simp [go_sem]; ((repeat' (first|(refine ag_x ?_;simp [go_sem])|intro _|apply And.intro|(apply Yh;clear Yh Y)));all_goals first|apply Hold.mk|omega|with_reducible assumption|skip))
    (refine callA_x [900002] (by first|exact .inl ⟨rfl,rfl⟩|exact .inr rfl) (by simp [go_sem]) ?_; intro args ha; simp [go_sem] at ha; subst ha; refine ⟨_, _, _, (want_spec g s (blV s b) m' 44 (by omega) (by omega)), (by simp [go_sem]), (fun ch h => hpan _ ⟨failP s (blV s b), failE s (blV s b), by rw [← he, if_neg]; intro q; rw [blV_idem, hc3, q] at h; exact h.1 rfl, by rw [h.2, blV_idem]⟩), ?_⟩; rintro ps r hps ⟨hw, rfl⟩; simp [go_sem]; ((repeat' (first|(refine ag_x ?_;simp [go_sem])|intro _|apply And.intro|(apply Yh;clear Yh Y)));all_goals first|apply Hold.mk|omega|with_reducible assumption|skip))
    rw [blV_idem, hc3] at hw
    have hc5 : c3 = 44 := by simpa using hw
    rw [if_pos hc5] at he
    refine ⟨(blV s (blV s b) + 1, m', acc ++ [v], gr'), ?_, ⟨by simp only; rw [blV_idem]; omega, by simp only; omega, by simp; omega, by simp; omega, f', by omega, by simp only; rw [blV_idem]; omega, by simp only; rw [blV_idem]; exact he⟩, by simp only; rw [blV_idem]; omega⟩
    (refine cov_of ?_ ?_ <;> simp [go_sem])
  clear hK2
  have hx : ∀ ch, XR (valV s (numR s) f' (d + 1) a m) ch → HasPan.pan Tryz.prog ch := fun ch ⟨p, e, h1, h2⟩ => hpan _ ⟨p, e, by rw [← he, h1], h2⟩
  ((refine awp_d (.qs [0, 2, 3, 4] (.two 1 (.one 5 (.one 6 (.one 7 (.qs [8] (.one 9 .nil))))) 5 (.two 1 (.one 6 (.one 7 (.qs [8] (.one 9 .nil)))) 6 (.one 1 (.one 7 (.qs [8] (.one 9 .nil))))))) (by kernel_rfl) ?_ ?_ ?_ ?_); (kernel_rfl); (exact (by decide +kernel)); (kernel_rfl); intro Y Yh; ((repeat' (first|(refine ag_x ?_;simp [go_sem])|refine adr_nil ?_|refine adr_two ?_ ?_|((first|refine adr_qs fun Y Yh=>?_|refine adr_y fun Y Yh=>?_);simp [go_sem])|intro _|apply And.intro|(apply Yh;clear Yh Y)));all_goals first|apply Hold.mk|omega|with_reducible assumption|skip))
  ·(refine callA_x [900002] (by first|exact .inl ⟨rfl,rfl⟩|exact .inr rfl) (by simp [go_sem]) ?_; intro args ha; simp [go_sem] at ha; subst ha; refine ⟨_, _, _, HV, (by simp [go_sem, dJ_mk]), hx, ?_⟩; rintro ps r hps ⟨⟨k, t, ns, xs⟩, b', m', hv, rfl, rfl⟩; simp [go_sem, dJ_mk]; ((repeat' (first|(refine ag_x ?_;simp [go_sem, dJ_mk])|refine adr_nil ?_|refine adr_two ?_ ?_|((first|refine adr_qs fun Y Yh=>?_|refine adr_y fun Y Yh=>?_);simp [go_sem, dJ_mk])|intro _|apply And.intro|(apply Yh;clear Yh Y)));all_goals first|apply Hold.mk|omega|with_reducible assumption|skip))
   rename_i g2 g3
   show K2 _
   refine tl2 _ _ _ hv g3 _ ?_
   (refine cov_of ?_ ?_ <;> simp [go_sem, cJ_mk])
  ·(refine callA_x [900002] (by first|exact .inl ⟨rfl,rfl⟩|exact .inr rfl) (by simp [go_sem]) ?_; intro args ha; simp [go_sem] at ha; subst ha; refine ⟨_, _, _, HV, (by simp [go_sem, dJ_mk]), hx, ?_⟩; rintro ps r hps ⟨⟨k, t, ns, xs⟩, b', m', hv, rfl, rfl⟩; simp [go_sem, dJ_mk]; ((repeat' (first|(refine ag_x ?_;simp [go_sem, dJ_mk])|refine adr_nil ?_|refine adr_two ?_ ?_|((first|refine adr_qs fun Y Yh=>?_|refine adr_y fun Y Yh=>?_);simp [go_sem, dJ_mk])|intro _|apply And.intro|(apply Yh;clear Yh Y)));all_goals first|apply Hold.mk|omega|with_reducible assumption|skip))
   all_goals rename_i g2 g3
   all_goals (show K2 _)
   all_goals (refine tl2 _ _ _ hv g3 _ ?_)
   all_goals ((refine cov_of ?_ ?_ <;> simp [go_sem, cJ_mk]))
end Go.Proofs.YtkgmecjaejaehaaGreatDoor
namespace Go.Js
/-! where the first one stands that is asked for -/
def fIx {α : Type} (p : α → Bool) (l : List α) : Int := if l.findIdx p < l.length then (l.findIdx p : Int) else -1
theorem fIx_at {α : Type} {p : α → Bool} {l : List α} {i : Nat} {x : α} (h : (l.take i).any p = false) (hx : l[i]? = some x) (hp : p x = true) : fIx p l = i := by
 have hlt : i < l.length := (List.getElem?_eq_some_iff.1 hx).1
 have e : l.findIdx p = i := by
  rw [List.findIdx_eq (h := hlt)]
  refine ⟨by rw [List.getElem?_eq_getElem hlt] at hx; simp at hx; rw [hx]; exact hp, fun j hj => ?_⟩
  rw [List.any_eq_false] at h
  have := h l[j] (by rw [List.mem_iff_getElem]; exact ⟨j, by simp; omega, by simp⟩)
  simpa using this
 unfold fIx
 rw [e, if_pos hlt]
theorem fIx_none {α : Type} {p : α → Bool} {l : List α} (h : l.any p = false) : fIx p l = -1 := by
 unfold fIx
 rw [if_neg]
 rw [List.findIdx_lt_length]
 rintro ⟨x, hx, hp⟩
 rw [List.any_eq_false] at h
 exact absurd hp (h x hx)
theorem take_anyG {α : Type} {p : α → Bool} {l : List α} {i : Nat} {x : α} (h : (l.take i).any p = false) (hx : l[i]? = some x) (hp : p x = false) : (l.take (i + 1)).any p = false := by
 rw [List.take_add_one, hx]
 simp [h, hp]
theorem fIx_any {α : Type} (p : α → Bool) (l : List α) : (0 ≤ fIx p l) ↔ l.any p = true := by
 constructor
 ·intro h
  cases ha : l.any p with
  | true => rfl
  | false => rw [fIx_none ha] at h; omega
 ·intro h
  unfold fIx
  rw [if_pos]
  ·omega
  ·rw [List.findIdx_lt_length]
   exact List.any_eq_true.1 h
def ixV (l : List (List UInt8)) (x : List UInt8) : Int := fIx (fun y => y == x) l
theorem ixV_mem (l : List (List UInt8)) (x : List UInt8) : (0 ≤ ixV l x) ↔ x ∈ l := by
 unfold ixV
 rw [fIx_any]
 simp
end Go.Js
namespace Go.Proofs.YtkgmecjaejaehaaGreatDoor
open Go.Eng Go.Js
set_option maxRecDepth 20000
attribute [local irreducible] AG CallA CallT AWp PCall ACall XCall AgC
set_option maxHeartbeats 2000000 in
theorem index_spec (l : List Bs) (x : Bs) (hl : l.length ≤ 1000000) : PCall Tryz.prog 99 [dSs l, dS x] fun r => r = dI (ixV l x) := by
 refine pcall_of Tryz.func99 rfl rfl Tryz.ntmps99 (rs := [.tmp 4]) (tys := [3]) rfl rfl (by simp) ?_
 unfold ixV
 (refine awp_sr fun Y Yh => ?_; simp [go_sem]; ((repeat' (first|(refine ag_x ?_;simp [go_sem])|intro _|apply And.intro|(apply Yh;clear Yh Y)));all_goals first|apply Hold.mk|omega|with_reducible assumption|skip))
 refine awp_seq_k fun K1 hK1 => ?_
 (refine awp_sr fun Y Yh => ?_; simp [go_sem]; ((repeat' (first|(refine ag_x ?_;simp [go_sem])|intro _|apply And.intro|(apply Yh;clear Yh Y)));all_goals first|apply Hold.mk|omega|with_reducible assumption|skip))
 refine awp_block ?_
 refine awp_loop (σ := Nat) (fun i => ⟨[(0, dSs l), (1, dS x), (7, dI l.length), (8, dI i)], []⟩) (fun i => i ≤ l.length ∧ (l.take i).any (fun y => y == x) = false) (fun i => l.length - i) 0 (by (refine cov_of ?_ ?_ <;> simp [go_sem])) (by simp) ?_
 rintro i ⟨hi, hany⟩
 (refine awp_sr fun Y Yh => ?_; simp [go_sem]; ((repeat' (first|(refine ag_x ?_;simp [go_sem])|intro _|apply And.intro|(apply Yh;clear Yh Y)));all_goals first|apply Hold.mk|omega|with_reducible assumption|skip))
 refine awp_seq_k fun K2 hK2 => ?_
 (refine awp_if fun T F hT hF => ?_; simp [go_sem]; refine BR.intro (fun h3 => hT ?_) (fun h3 => hF ?_); all_goals clear hT hF T F; try simp at h3)
 ·refine awp_skip ?_
  refine hK2 _ ?_; clear hK2
  obtain ⟨y, hy⟩ : ∃ y, l[i]? = some y := ⟨_, List.getElem?_eq_getElem (by omega)⟩
  refine awp_seq_k fun K4 hK4 => ?_
  refine awp_block ?_
  (refine awp_sr fun Y Yh => ?_; simp [go_sem]; ((repeat' (first|(refine ag_x ?_;simp [go_sem])|intro _|apply And.intro|(apply Yh;clear Yh Y)));all_goals first|apply Hold.mk|omega|with_reducible assumption|skip))
  (refine awp_sr fun Y Yh => ?_; simp [go_sem, hy]; ((repeat' (first|(refine ag_x ?_;simp [go_sem, hy])|intro _|apply And.intro|(apply Yh;clear Yh Y)));all_goals first|apply Hold.mk|omega|with_reducible assumption|skip))
  (refine awp_if fun T F hT hF => ?_; simp [go_sem]; refine BR.intro (fun h5 => hT ?_) (fun h5 => hF ?_); all_goals clear hT hF T F; try simp at h5)
  ·have hxy : x = y := by simpa using h5
   (refine awp_sr fun Y Yh => ?_; simp [go_sem]; ((repeat' (first|(refine ag_x ?_;simp [go_sem])|intro _|apply And.intro|(apply Yh;clear Yh Y)));all_goals first|apply Hold.mk|omega|with_reducible assumption|skip))
   (refine awp_ret ?_; simp [go_sem])
   rw [fIx_at hany hy (by simp [hxy])]
  ·have hxy : ¬ x = y := by simpa using h5
   refine awp_skip ?_
   refine hK4 _ ?_; clear hK4
   (refine awp_r fun Y Yh => ?_; simp [go_sem]; ((repeat' (first|(refine ag_x ?_;simp [go_sem])|intro _|apply And.intro|(apply Yh;clear Yh Y)));all_goals first|apply Hold.mk|omega|with_reducible assumption|skip))
   refine ⟨i + 1, ?_, ⟨by omega, take_anyG hany hy (by simp; exact fun q => hxy q.symm)⟩, by omega⟩
   (refine cov_of ?_ ?_ <;> simp [go_sem])
 ·refine awp_exit ?_
  simp only [go_sem]
  refine hK1 _ ?_; clear hK1
  (refine awp_sr fun Y Yh => ?_; simp [go_sem]; ((repeat' (first|(refine ag_x ?_;simp [go_sem])|intro _|apply And.intro|(apply Yh;clear Yh Y)));all_goals first|apply Hold.mk|omega|with_reducible assumption|skip))
  (refine awp_ret ?_; simp [go_sem])
  have : i = l.length := by omega
  subst this
  rw [List.take_length] at hany
  rw [fIx_none hany]
theorem contains_spec (l : List Bs) (x : Bs) (hl : l.length ≤ 1000000) : PCall Tryz.prog 119 [dSs l, dS x] fun r => r = dB (decide (x ∈ l)) := by
 refine pcall_of Tryz.func119 rfl rfl Tryz.ntmps119 (rs := [.tmp 4]) (tys := [4]) rfl rfl (by simp) ?_
 (refine awp_sr fun Y Yh => ?_; simp [go_sem]; ((repeat' (first|(refine ag_x ?_;simp [go_sem])|intro _|apply And.intro|(apply Yh;clear Yh Y)));all_goals first|apply Hold.mk|omega|with_reducible assumption|skip))
 (refine awp_sr fun Y Yh => ?_; simp [go_sem]; ((repeat' (first|(refine ag_x ?_;simp [go_sem])|intro _|apply And.intro|(apply Yh;clear Yh Y)));all_goals first|apply Hold.mk|omega|with_reducible assumption|skip))
 ((try refine CallT.toA ?_); refine callT_m (by first|exact .inl ⟨rfl,rfl⟩|exact .inr rfl) (by simp [go_sem]) ?_; intro args ha; simp [go_sem] at ha; subst ha; refine ⟨_, (index_spec l x hl), ?_⟩; rintro _ rfl; simp [go_sem]; ((repeat' (first|(refine ag_x ?_;simp [go_sem])|intro _|apply And.intro|(apply Yh;clear Yh Y)));all_goals first|apply Hold.mk|omega|with_reducible assumption|skip))
 (refine awp_ret ?_; simp [go_sem])
 exact ixV_mem l x
def objR (s : Bs) (f d b n : Nat) : Rs JV :=
 match s[blV s (b + 1)]? with
 | none => .bad s.length 14
 | some c2 => if c2 = 125 then .ok (.mk 6 [] [] []) (blV s (b + 1) + 1) n else objV s (numR s) f d (blV s (b + 1)) n [] []
set_option maxHeartbeats 16000000 in
theorem object_read (g : Nat) (s : Bs) (f d b n : Nat) (hl : s.length ≤ 1000000) (hb : b < s.length) (hd : d ≤ 50) (hn : n ≤ 2000) (hf : 2 * (s.length - b) ≤ f) (H : ∀ f' < f, ValOk s f') : XCall Tryz.prog 79 [pR g, dI d] (rdE g s b n) [900002]
  (fun ps r => ∃ v a m, objR s f d b n = .ok v a m ∧ r = dJ v ∧ ps = [(g, .box [dS s, dI a, dI m])]) (XR (objR s f d b n)) := by
 refine xcall_of Tryz.func79 rfl rfl Tryz.ntmps79 (rs := [.cell 4 26]) (tys := [26]) rfl rfl (by simp) (by simp [notFroz]) fun hp hpan => ?_
 unfold objR at hpan ⊢
 have hb1 := blV_le (s := s) (a := b + 1) (by omega)
 have hb2 := blV_ge s (b + 1)
 refine awp_seq ?_
 refine awp_r fun Y Yh => ?_
 simp [go_sem]
 intro g4
 apply Yh; clear Yh Y
 refine Hold.mk ?_
 refine awp_seq ?_
 refine awp_r fun Y Yh => ?_
 simp [go_sem]
 intro g5
 apply Yh; clear Yh Y
 refine Hold.mk ?_
 (refine awp_sr fun Y Yh => ?_; simp [go_sem]; ((repeat' (first|(refine ag_x ?_;simp [go_sem])|intro _|apply And.intro|(apply Yh;clear Yh Y)));all_goals first|apply Hold.mk|omega|with_reducible assumption|skip))
 refine awp_seq_k fun K1 hK1 => ?_
 (refine awp_sr fun Y Yh => ?_; simp [go_sem]; ((repeat' (first|(refine ag_x ?_;simp [go_sem])|intro _|apply And.intro|(apply Yh;clear Yh Y)));all_goals first|apply Hold.mk|omega|with_reducible assumption|skip))
 (refine callA_x [900002] (by first|exact .inl ⟨rfl,rfl⟩|exact .inr rfl) (by simp [go_sem]) ?_; intro args ha; simp [go_sem] at ha; subst ha; refine ⟨_, _, _, (peek_spec g s (b + 1) n (by omega) (by omega)), (by simp [go_sem]), (fun ch h => hpan _ ⟨_, _, by rw [List.getElem?_eq_none h.1], h.2⟩), ?_⟩; rintro ps r hps ⟨c, hc, rfl, rfl⟩; simp [go_sem]; ((repeat' (first|(refine ag_x ?_;simp [go_sem])|intro _|apply And.intro|(apply Yh;clear Yh Y)));all_goals first|apply Hold.mk|omega|with_reducible assumption|skip))
 rw [hc] at hpan hK1 ⊢
 simp only at hpan hK1 ⊢
 have hlt := get_lt hc
 generalize blV s (b + 1) = b2 at hb1 hb2 hc hlt hpan hK1 ⊢
 (refine awp_if fun T F hT hF => ?_; simp [go_sem]; refine BR.intro (fun h2 => hT ?_) (fun h2 => hF ?_); all_goals clear hT hF T F; try simp at h2)
 ·have hc2 : c = 125 := (u8i c 125).1 (h2.trans rfl)
  rw [if_pos hc2]
  (refine awp_sr fun Y Yh => ?_; simp [go_sem]; ((repeat' (first|(refine ag_x ?_;simp [go_sem])|intro _|apply And.intro|(apply Yh;clear Yh Y)));all_goals first|apply Hold.mk|omega|with_reducible assumption|skip))
  (refine awp_sr fun Y Yh => ?_; simp [go_sem]; ((repeat' (first|(refine ag_x ?_;simp [go_sem])|intro _|apply And.intro|(apply Yh;clear Yh Y)));all_goals first|apply Hold.mk|omega|with_reducible assumption|skip))
  (refine awp_ret ?_; simp [go_sem, retA])
  exact ⟨_, _, _, ⟨rfl, rfl, rfl⟩, by simp [dJ_mk], by simp, rfl⟩
 ·have hc2 : ¬ c = 125 := fun q => by rw [q] at h2; exact h2 rfl
  rw [if_neg hc2] at hpan hK1
  refine awp_skip ?_
  refine hK1 _ ?_; clear hK1
  simp only [go_sem]
  refine awp_nilbox 33 26 4 3 (sb := 5) rfl rfl (by decide) fun gi => ?_
  simp only [go_sem, List.set_cons_succ, List.set_cons_zero]
  refine awp_nilbox 34 9 1 2 (sb := 5) rfl rfl (by decide) fun gj => ?_
  simp only [go_sem, List.set_cons_succ, List.set_cons_zero]
  refine awp_block ?_
  refine awp_loop (σ := (Nat × Nat) × (List Bs × List JV) × (Nat × Nat)) (fun x => ⟨[(0, pR g), (1, dI d), (4, .ptr 4 g4 0), (5, .ptr 5 g5 0)], [(4, (g4, .box [dI 0, dS [], .v (.slice none 0 0), .v (.slice none 0 0)])), (5, (g5, .box [dI 6, dS [], .own 34 x.2.2.1, .own 33 x.2.2.2])), (34, (x.2.2.1, .row 9 1 (x.2.1.1.map cS))), (33, (x.2.2.2, .row 26 4 (x.2.1.2.map cJ)))] ++ rdE g s x.1.1 x.1.2⟩)
   (fun x => x.1.1 ≤ s.length ∧ x.1.2 ≤ 2000 ∧ x.2.1.1.length ≤ x.1.2 ∧ x.2.1.2.length ≤ x.1.2 ∧ ∃ f', f' ≤ f ∧ 2 * (s.length - x.1.1) + 1 < f' ∧ objV s (numR s) f' d x.1.1 x.1.2 x.2.1.1 x.2.1.2 = objV s (numR s) f d b2 n [] [])
   (fun x => s.length - x.1.1) ((b2, n), ([], []), (gj, gi)) ?_ ⟨hb1, hn, by simp, by simp, f, Nat.le_refl _, by simp only; omega, rfl⟩ ?_
  ·(refine cov_of ?_ ?_ <;> simp [go_sem])
  rintro ⟨⟨a, m⟩, ⟨nms, acc⟩, ⟨gn, gr⟩⟩ ⟨ha, hm, hnm, ham, f', hff, hf', he⟩
  simp only at ha hm hnm ham hff hf' he ⊢
  obtain ⟨f', rfl⟩ : ∃ k, f' = k + 1 := ⟨f' - 1, by omega⟩
  rw [objV] at he
  simp only at he
  have ha1 := blV_le ha
  have ha2 := blV_ge s a
  refine awp_block ?_
  refine awp_seq_k fun K3 hK3 => ?_
  (refine awp_sr fun Y Yh => ?_; simp [go_sem]; ((repeat' (first|(refine ag_x ?_;simp [go_sem])|intro _|apply And.intro|(apply Yh;clear Yh Y)));all_goals first|apply Hold.mk|omega|with_reducible assumption|skip))
  (refine callA_x [900002] (by first|exact .inl ⟨rfl,rfl⟩|exact .inr rfl) (by simp [go_sem]) ?_; intro args ha; simp [go_sem] at ha; subst ha; refine ⟨_, _, _, (peek_spec g s a m (by omega) ha), (by simp [go_sem]), (fun ch h => hpan _ ⟨_, _, by rw [← he, List.getElem?_eq_none h.1], h.2⟩), ?_⟩; rintro ps r hps ⟨c1, hc1, rfl, rfl⟩; simp [go_sem]; ((repeat' (first|(refine ag_x ?_;simp [go_sem])|intro _|apply And.intro|(apply Yh;clear Yh Y)));all_goals first|apply Hold.mk|omega|with_reducible assumption|skip))
  rw [hc1] at he
  simp only at he
  have hlt1 := get_lt hc1
  generalize blV s a = a1 at ha1 ha2 hc1 hlt1 he ⊢
  (refine awp_if fun T F hT hF => ?_; simp [go_sem]; refine BR.intro (fun h3 => hT ?_) (fun h3 => hF ?_); all_goals clear hT hF T F; try simp at h3)
  ·rw [if_pos (by intro q; rw [q] at h3; exact h3 rfl)] at he
   (refine awp_r fun Y Yh => ?_; simp [go_sem]; ((repeat' (first|(refine ag_x ?_;simp [go_sem])|intro _|apply And.intro|(apply Yh;clear Yh Y)));all_goals first|apply Hold.mk|omega|with_reducible assumption|skip))
   (refine callA_x [900002] (by first|exact .inl ⟨rfl,rfl⟩|exact .inr rfl) (by simp [go_sem]) ?_; intro args ha; simp [go_sem] at ha; subst ha; exact ⟨_, _, _, (fail_spec g s a1 m a1 (by omega)), (by simp [go_sem]), (fun ch h => hpan _ ⟨_, _, he.symm, h⟩), fun _ _ _ h => h.elim⟩)
  ·have hq34 : c1 = 34 := (u8i c1 34).1 (h3.trans rfl)
   rw [if_neg (by simp [hq34])] at he
   refine awp_skip ?_
   refine hK3 _ ?_; clear hK3
   (refine awp_sr fun Y Yh => ?_; simp [go_sem]; ((repeat' (first|(refine ag_x ?_;simp [go_sem])|intro _|apply And.intro|(apply Yh;clear Yh Y)));all_goals first|apply Hold.mk|omega|with_reducible assumption|skip))
   (refine awp_sr fun Y Yh => ?_; simp [go_sem]; ((repeat' (first|(refine ag_x ?_;simp [go_sem])|intro _|apply And.intro|(apply Yh;clear Yh Y)));all_goals first|apply Hold.mk|omega|with_reducible assumption|skip))
   (refine callA_x [900002] (by first|exact .inl ⟨rfl,rfl⟩|exact .inr rfl) (by simp [go_sem]) ?_; intro args ha; simp [go_sem] at ha; subst ha; refine ⟨_, _, _, (str_read g s a1 m (by omega) hlt1), (by simp [go_sem]), (fun ch ⟨q, h1, h2⟩ => hpan _ ⟨q.1, q.2, by rw [← he, h1], h2⟩), ?_⟩; rintro ps r hps ⟨⟨nm, a2⟩, hst, rfl, rfl⟩; simp [go_sem]; ((repeat' (first|(refine ag_x ?_;simp [go_sem])|intro _|apply And.intro|(apply Yh;clear Yh Y)));all_goals first|apply Hold.mk|omega|with_reducible assumption|skip))
   rw [hst] at he
   simp only at he
   have hsl := strV_le hst
   simp only at hsl
   refine awp_seq_k fun K4 hK4 => ?_
   (refine awp_sr fun Y Yh => ?_; simp [go_sem]; ((repeat' (first|(refine ag_x ?_;simp [go_sem])|intro _|apply And.intro|(apply Yh;clear Yh Y)));all_goals first|apply Hold.mk|omega|with_reducible assumption|skip))
   ((try refine CallT.toA ?_); refine callT_f (by first|exact .inl ⟨rfl,rfl⟩|exact .inr rfl) ?_; intro args ha; simp [go_sem] at ha; subst ha; refine ⟨_, (contains_spec nms nm (by omega)), ?_⟩; rintro _ rfl; refine ⟨rfl, ?_⟩; simp [go_sem]; ((repeat' (first|(refine ag_x ?_;simp [go_sem])|intro _|apply And.intro|(apply Yh;clear Yh Y)));all_goals first|apply Hold.mk|omega|with_reducible assumption|skip))
   (refine awp_if fun T F hT hF => ?_; simp [go_sem]; refine BR.intro (fun h4 => hT ?_) (fun h4 => hF ?_); all_goals clear hT hF T F; try simp at h4)
   ·rw [if_pos h4] at he
    refine awp_ags ?_
    simp only [AGs]
    refine ag_true rfl ?_
    simp [go_sem]
    refine ag_true rfl ?_
    simp [go_sem]
    refine ag_mkifc (by simp [dstOk]) conc74 ?_
    simp [go_sem]
    refine ag_panic ?_
    simp [go_sem]
    refine ⟨74, _, ⟨rfl, rfl⟩, fun C w u hu => ?_⟩
    rw [rep2 hu]
    exact hpan _ ⟨_, _, he.symm, rfl⟩
   ·rw [if_neg h4] at he
    have hb3 := blV_le (s := s) (a := a2) (by omega)
    have hb4 := blV_ge s a2
    refine awp_skip ?_
    refine hK4 _ ?_; clear hK4
    (refine awp_sr fun Y Yh => ?_; simp [go_sem]; ((repeat' (first|(refine ag_x ?_;simp [go_sem])|intro _|apply And.intro|(apply Yh;clear Yh Y)));all_goals first|apply Hold.mk|omega|with_reducible assumption|skip))
    (refine callA_x [900002] (by first|exact .inl ⟨rfl,rfl⟩|exact .inr rfl) (by simp [go_sem]) ?_; intro args ha; simp [go_sem] at ha; subst ha; refine ⟨_, _, _, (want_spec g s a2 m 58 (by omega) (by omega)), (by simp [go_sem]), (fun ch h => hpan _ (by cases hx : s[blV s a2]? with | none => have := List.getElem?_eq_none_iff.1 hx; rw [hx] at he; exact ⟨_, _, he.symm, by rw [h.2]; simp [failP, failE, this]⟩ | some c2 => rw [hx] at he; simp only at he; rw [if_pos (by intro q; rw [q] at hx; exact h.1 hx)] at he; exact ⟨_, _, he.symm, h.2⟩)), ?_⟩; rintro ps r hps ⟨hw, rfl⟩; simp [go_sem]; ((repeat' (first|(refine ag_x ?_;simp [go_sem])|intro _|apply And.intro|(apply Yh;clear Yh Y)));all_goals first|apply Hold.mk|omega|with_reducible assumption|skip))
    rw [hw] at he
    simp only [ne_eq, not_true_eq_false, if_false] at he
    have hltw := get_lt hw
    generalize blV s a2 = a3 at hb3 hb4 hw hltw he ⊢
    have HV := H f' (by omega) g (d + 1) (a3 + 1) m (by omega) (by omega) (by omega) hm
    (refine awp_sr fun Y Yh => ?_; simp [go_sem]; ((repeat' (first|(refine ag_x ?_;simp [go_sem])|intro _|apply And.intro|(apply Yh;clear Yh Y)));all_goals first|apply Hold.mk|omega|with_reducible assumption|skip))
    rename_i gx gn2
    refine awp_seq_k fun K2 hK2 => ?_
    have tl2 : ∀ v b m', valV s (numR s) f' (d + 1) (a3 + 1) m = .ok v b m' → ∀ gr' S', Cov S' ⟨[(0, pR g), (1, dI d), (4, .ptr 4 g4 0), (5, .ptr 5 g5 0)], [(4, (g4, .box [dI 0, dS [], .v (.slice none 0 0), .v (.slice none 0 0)])), (5, (g5, .box [dI 6, dS [], .own 34 gn2, .own 33 gr'])), (34, (gn2, .row 9 1 ((nms ++ [nm]).map cS))), (33, (gr', .row 26 4 ((acc ++ [v]).map cJ)))] ++ rdE g s b m'⟩ → K2 S' := fun v b m' hv gr' S' hS => by
     refine hK2 _ ?_; clear hK2
     refine awp_cov hS ?_; clear hS
     have hvl := valV_le (fun _ _ => numR_le) hv
     have hp1 := blV_ge s b
     have hp2 := blV_le (s := s) (a := b) (by omega)
     rw [hv] at he
     simp only at he
     refine awp_seq_k fun K5 hK5 => ?_
     (refine awp_sr fun Y Yh => ?_; simp [go_sem]; ((repeat' (first|(refine ag_x ?_;simp [go_sem])|intro _|apply And.intro|(apply Yh;clear Yh Y)));all_goals first|apply Hold.mk|omega|with_reducible assumption|skip))
     (refine callA_x [900002] (by first|exact .inl ⟨rfl,rfl⟩|exact .inr rfl) (by simp [go_sem]) ?_; intro args ha; simp [go_sem] at ha; subst ha; refine ⟨_, _, _, (peek_spec g s b m' (by omega) (by omega)), (by simp [go_sem]), (fun ch h => hpan _ ⟨_, _, by rw [← he, List.getElem?_eq_none h.1], h.2⟩), ?_⟩; rintro ps r hps ⟨c3, hc3, rfl, rfl⟩; simp [go_sem]; ((repeat' (first|(refine ag_x ?_;simp [go_sem])|intro _|apply And.intro|(apply Yh;clear Yh Y)));all_goals first|apply Hold.mk|omega|with_reducible assumption|skip))
     rw [hc3] at he
     simp only at he
     have hlt3 := get_lt hc3
     (refine awp_if fun T F hT hF => ?_; simp [go_sem]; refine BR.intro (fun h6 => hT ?_) (fun h6 => hF ?_); all_goals clear hT hF T F; try simp at h6)
     ·have hc4 : c3 = 125 := (u8i c3 125).1 (h6.trans rfl)
      rw [if_pos hc4] at he
      (refine awp_sr fun Y Yh => ?_; simp [go_sem]; ((repeat' (first|(refine ag_x ?_;simp [go_sem])|intro _|apply And.intro|(apply Yh;clear Yh Y)));all_goals first|apply Hold.mk|omega|with_reducible assumption|skip))
      (refine awp_sr fun Y Yh => ?_; simp [go_sem]; ((repeat' (first|(refine ag_x ?_;simp [go_sem])|intro _|apply And.intro|(apply Yh;clear Yh Y)));all_goals first|apply Hold.mk|omega|with_reducible assumption|skip))
      (refine awp_ret ?_; simp [go_sem, retA])
      exact ⟨_, _, _, he.symm, by simp [dJ_mk], by simp, rfl⟩
     ·have hc4 : ¬ c3 = 125 := fun q => by rw [q] at h6; exact h6 rfl
      rw [if_neg hc4] at he
      refine awp_skip ?_
      refine hK5 _ ?_; clear hK5
      (refine awp_r fun Y Yh => ?_; simp [go_sem]; ((repeat' (first|(refine ag_x ?_;simp [go_sem])|intro _|apply And.intro|(apply Yh;clear Yh Y)));all_goals first|apply Hold.mk|omega|with_reducible assumption|skip))
      (refine callA_x [900002] (by first|exact .inl ⟨rfl,rfl⟩|exact .inr rfl) (by simp [go_sem]) ?_; intro args ha; simp [go_sem] at ha; subst ha; refine ⟨_, _, _, (want_spec g s (blV s b) m' 44 (by omega) (by omega)), (by simp [go_sem]), (fun ch h => hpan _ ⟨failP s (blV s b), failE s (blV s b), by rw [← he, if_neg]; intro q; rw [blV_idem, hc3, q] at h; exact h.1 rfl, by rw [h.2, blV_idem]⟩), ?_⟩; rintro ps r hps ⟨hw, rfl⟩; simp [go_sem]; ((repeat' (first|(refine ag_x ?_;simp [go_sem])|intro _|apply And.intro|(apply Yh;clear Yh Y)));all_goals first|apply Hold.mk|omega|with_reducible assumption|skip))
      rw [blV_idem, hc3] at hw
      have hc5 : c3 = 44 := by simpa using hw
      rw [if_pos hc5] at he
      refine ⟨((blV s (blV s b) + 1, m'), (nms ++ [nm], acc ++ [v]), (gn2, gr')), ?_, ⟨by simp only; rw [blV_idem]; omega, by simp only; omega, by simp; omega, by simp; omega, f', by omega, by simp only; rw [blV_idem]; omega, by simp only; rw [blV_idem]; exact he⟩, by simp only; rw [blV_idem]; omega⟩
      (refine cov_of ?_ ?_ <;> simp [go_sem])
    clear hK2
    have hx : ∀ ch, XR (valV s (numR s) f' (d + 1) (a3 + 1) m) ch → HasPan.pan Tryz.prog ch := fun ch ⟨p, e, h1, h2⟩ => hpan _ ⟨p, e, by rw [← he, h1], h2⟩
    ((refine awp_d (.qs [0, 2, 3, 4] (.two 1 (.one 5 (.one 6 (.one 7 (.qs [8] (.one 9 .nil))))) 5 (.two 1 (.one 6 (.one 7 (.qs [8] (.one 9 .nil)))) 6 (.one 1 (.one 7 (.qs [8] (.one 9 .nil))))))) (by kernel_rfl) ?_ ?_ ?_ ?_); (kernel_rfl); (exact (by decide +kernel)); (kernel_rfl); intro Y Yh; ((repeat' (first|(refine ag_x ?_;simp [go_sem])|refine adr_nil ?_|refine adr_two ?_ ?_|((first|refine adr_qs fun Y Yh=>?_|refine adr_y fun Y Yh=>?_);simp [go_sem])|intro _|apply And.intro|(apply Yh;clear Yh Y)));all_goals first|apply Hold.mk|omega|with_reducible assumption|skip))
    ·(refine callA_x [900002] (by first|exact .inl ⟨rfl,rfl⟩|exact .inr rfl) (by simp [go_sem]) ?_; intro args ha; simp [go_sem] at ha; subst ha; refine ⟨_, _, _, HV, (by simp [go_sem, dJ_mk]), hx, ?_⟩; rintro ps r hps ⟨⟨k, t, ns, xs⟩, b', m', hv, rfl, rfl⟩; simp [go_sem, dJ_mk]; ((repeat' (first|(refine ag_x ?_;simp [go_sem, dJ_mk])|refine adr_nil ?_|refine adr_two ?_ ?_|((first|refine adr_qs fun Y Yh=>?_|refine adr_y fun Y Yh=>?_);simp [go_sem, dJ_mk])|intro _|apply And.intro|(apply Yh;clear Yh Y)));all_goals first|apply Hold.mk|omega|with_reducible assumption|skip))
     rename_i g2 g3
     show K2 _
     refine tl2 _ _ _ hv g3 _ ?_
     (refine cov_of ?_ ?_ <;> simp [go_sem, cJ_mk])
    ·(refine callA_x [900002] (by first|exact .inl ⟨rfl,rfl⟩|exact .inr rfl) (by simp [go_sem]) ?_; intro args ha; simp [go_sem] at ha; subst ha; refine ⟨_, _, _, HV, (by simp [go_sem, dJ_mk]), hx, ?_⟩; rintro ps r hps ⟨⟨k, t, ns, xs⟩, b', m', hv, rfl, rfl⟩; simp [go_sem, dJ_mk]; ((repeat' (first|(refine ag_x ?_;simp [go_sem, dJ_mk])|refine adr_nil ?_|refine adr_two ?_ ?_|((first|refine adr_qs fun Y Yh=>?_|refine adr_y fun Y Yh=>?_);simp [go_sem, dJ_mk])|intro _|apply And.intro|(apply Yh;clear Yh Y)));all_goals first|apply Hold.mk|omega|with_reducible assumption|skip))
     all_goals rename_i g2 g3
     all_goals (show K2 _)
     all_goals (refine tl2 _ _ _ hv g3 _ ?_)
     all_goals ((refine cov_of ?_ ?_ <;> simp [go_sem, cJ_mk]))
theorem starts_b (c : UInt8) : (decide ((c.toNat : Int) = 34) || decide ((c.toNat : Int) = 91) || decide ((c.toNat : Int) = 123) || decide ((c.toNat : Int) = 45) || decide (48 ≤ (c.toNat : Int)) && decide ((c.toNat : Int) ≤ 57) ||
  decide ((c.toNat : Int) = 116) || decide ((c.toNat : Int) = 102) || decide ((c.toNat : Int) = 110)) = starts c := by
 have h : ∀ c : UInt8, ((decide ((c.toNat : Int) = 34) || decide ((c.toNat : Int) = 91) || decide ((c.toNat : Int) = 123) || decide ((c.toNat : Int) = 45) || decide (48 ≤ (c.toNat : Int)) && decide ((c.toNat : Int) ≤ 57) ||
  decide ((c.toNat : Int) = 116) || decide ((c.toNat : Int) = 102) || decide ((c.toNat : Int) = 110)) == starts c) = true := u8_all (by decide +kernel)
 exact beq_iff_eq.1 (h c)
theorem starts_p (c : UInt8) : (((((((((c.toNat : Int) = 34 ∨ (c.toNat : Int) = 91) ∨ (c.toNat : Int) = 123) ∨ (c.toNat : Int) = 45) ∨ 48 ≤ (c.toNat : Int) ∧ (c.toNat : Int) ≤ 57) ∨ (c.toNat : Int) = 116) ∨ (c.toNat : Int) = 102) ∨ (c.toNat : Int) = 110)) ↔ starts c = true := by
 rw [← starts_b]
 simp [or_assoc]
set_option maxHeartbeats 16000000 in
theorem value_step (s : Bs) (f : Nat) (hl : s.length ≤ 1000000) (H : ∀ f' < f + 1, ValOk s f') : ValOk s (f + 1) := by
 intro g d a n ha hf hd hn
 refine xcall_of Tryz.func38 rfl rfl Tryz.ntmps38 (rs := [.cell 4 26]) (tys := [26]) rfl rfl (by simp) (by simp [notFroz]) fun hp hpan => ?_
 have hb1 := blV_le ha
 have hb2 := blV_ge s a
 rw [valV] at hpan ⊢
 simp only at hpan ⊢
 refine awp_seq ?_
 refine awp_r fun Y Yh => ?_
 simp [go_sem]
 intro g4
 apply Yh; clear Yh Y
 refine Hold.mk ?_
 (refine awp_sr fun Y Yh => ?_; simp [go_sem]; ((repeat' (first|(refine ag_x ?_;simp [go_sem])|intro _|apply And.intro|(apply Yh;clear Yh Y)));all_goals first|apply Hold.mk|omega|with_reducible assumption|skip))
 (refine callA_x [900002] (by first|exact .inl ⟨rfl,rfl⟩|exact .inr rfl) (by simp [go_sem]) ?_; intro args ha; simp [go_sem] at ha; subst ha; refine ⟨_, _, _, (peek_spec g s a n (by omega) ha), (by simp [go_sem]), (fun ch h => hpan _ ⟨_, _, by rw [List.getElem?_eq_none h.1], h.2⟩), ?_⟩; rintro ps r hps ⟨c, hc, rfl, rfl⟩; simp [go_sem]; ((repeat' (first|(refine ag_x ?_;simp [go_sem])|intro _|apply And.intro|(apply Yh;clear Yh Y)));all_goals first|apply Hold.mk|omega|with_reducible assumption|skip))
 rw [hc] at hpan ⊢
 simp only at hpan ⊢
 have hlt := get_lt hc
 generalize blV s a = b at hb1 hb2 hc hlt hpan ⊢
 (refine awp_sr fun Y Yh => ?_; simp [go_sem]; ((repeat' (first|(refine ag_x ?_;simp [go_sem])|intro _|apply And.intro|(apply Yh;clear Yh Y)));all_goals first|apply Hold.mk|omega|with_reducible assumption|skip))
 (refine awp_sr fun Y Yh => ?_; simp [go_sem]; ((repeat' (first|(refine ag_x ?_;simp [go_sem])|intro _|apply And.intro|(apply Yh;clear Yh Y)));all_goals first|apply Hold.mk|omega|with_reducible assumption|skip))
 refine awp_seq_k fun K1 hK1 => ?_
 (refine awp_sr fun Y Yh => ?_; simp [go_sem]; ((repeat' (first|(refine ag_x ?_;simp [go_sem])|intro _|apply And.intro|(apply Yh;clear Yh Y)));all_goals first|apply Hold.mk|omega|with_reducible assumption|skip))
 (refine awp_if fun T F hT hF => ?_; simp [go_sem]; refine BR.intro (fun h10 => hT ?_) (fun h10 => hF ?_); all_goals clear hT hF T F; try simp at h10)
 ·rw [if_pos ⟨(starts_p c).1 h10.1, by omega⟩] at hpan
  refine awp_ags ?_
  simp only [AGs]
  refine ag_true rfl ?_
  simp [go_sem]
  refine ag_true rfl ?_
  simp [go_sem]
  refine ag_true rfl ?_
  simp [go_sem]
  refine ag_true rfl ?_
  simp [go_sem]
  refine ag_true rfl ?_
  simp [go_sem]
  refine ag_mkifc (by simp [dstOk]) conc74 ?_
  simp [go_sem]
  refine ag_panic ?_
  simp [go_sem]
  refine ⟨74, _, ⟨rfl, rfl⟩, fun C w u hu => ?_⟩
  rw [rep2 hu]
  exact hpan _ ⟨_, _, rfl, rfl⟩
 ·have hno : ¬ (starts c = true ∧ (50 < d ∨ 2000 < n + 1)) := fun ⟨q1, q2⟩ => by have := h10 ((starts_p c).2 q1); omega
  rw [if_neg hno] at hpan
  rw [if_neg hno] at hK1
  refine awp_skip ?_
  refine hK1 _ ?_; clear hK1
  have lim : starts c = true → d ≤ 50 ∧ n + 1 ≤ 2000 := fun q => by
   have := (starts_p c).2 q
   have := h10 this
   omega
  clear h10
  refine awp_seq_k fun K2 hK2 => ?_
  refine awp_block ?_
  (refine awp_sr fun Y Yh => ?_; simp [go_sem]; ((repeat' (first|(refine ag_x ?_;simp [go_sem])|intro _|apply And.intro|(apply Yh;clear Yh Y)));all_goals first|apply Hold.mk|omega|with_reducible assumption|skip))
  (refine awp_if fun T F hT hF => ?_; simp [go_sem]; refine BR.intro (fun h3 => hT ?_) (fun h3 => hF ?_); all_goals clear hT hF T F; try simp at h3)
  ·have q : c = 34 := (u8i c 34).1 (h3.trans rfl)
   rw [if_pos q] at hpan
   (refine awp_sr fun Y Yh => ?_; simp [go_sem]; ((repeat' (first|(refine ag_x ?_;simp [go_sem])|intro _|apply And.intro|(apply Yh;clear Yh Y)));all_goals first|apply Hold.mk|omega|with_reducible assumption|skip))
   (refine callA_x [900002] (by first|exact .inl ⟨rfl,rfl⟩|exact .inr rfl) (by simp [go_sem]) ?_; intro args ha; simp [go_sem] at ha; subst ha; refine ⟨_, _, _, (str_read g s b (n + 1) hl hlt), (by simp [go_sem]), (fun ch ⟨q, h1, h2⟩ => hpan _ ⟨q.1, q.2, by rw [h1], h2⟩), ?_⟩; rintro ps r hps ⟨⟨tx, b2⟩, hst, rfl, rfl⟩; simp [go_sem]; ((repeat' (first|(refine ag_x ?_;simp [go_sem])|intro _|apply And.intro|(apply Yh;clear Yh Y)));all_goals first|apply Hold.mk|omega|with_reducible assumption|skip))
   (refine awp_ret ?_; simp [go_sem, retA])
   rw [if_pos q, hst]
   exact ⟨_, _, _, rfl, by simp [dJ_mk], rfl, by simp⟩
  ·have q34 : ¬ c = 34 := fun q => by rw [q] at h3; exact h3 rfl
   rw [if_neg q34] at hpan
   (refine awp_sr fun Y Yh => ?_; simp [go_sem]; ((repeat' (first|(refine ag_x ?_;simp [go_sem])|intro _|apply And.intro|(apply Yh;clear Yh Y)));all_goals first|apply Hold.mk|omega|with_reducible assumption|skip))
   (refine awp_if fun T F hT hF => ?_; simp [go_sem]; refine BR.intro (fun h4 => hT ?_) (fun h4 => hF ?_); all_goals clear hT hF T F; try simp at h4)
   ·have q : c = 91 := (u8i c 91).1 (h4.trans rfl)
    obtain ⟨hd5, hn5⟩ := lim (by rw [q]; rfl)
    rw [if_pos q] at hpan
    (refine awp_sr fun Y Yh => ?_; simp [go_sem]; ((repeat' (first|(refine ag_x ?_;simp [go_sem])|intro _|apply And.intro|(apply Yh;clear Yh Y)));all_goals first|apply Hold.mk|omega|with_reducible assumption|skip))
    (refine callA_x [900002] (by first|exact .inl ⟨rfl,rfl⟩|exact .inr rfl) (by simp [go_sem]) ?_; intro args ha; simp [go_sem] at ha; subst ha; refine ⟨_, _, _, (list_read g s f d b (n + 1) hl hlt hd5 hn5 (by omega) (fun f' h => H f' (by omega))), (by simp [go_sem, dJ_mk]), hpan, ?_⟩; rintro ps r hps ⟨⟨k, t, ns, xs⟩, b2, m, hv, rfl, rfl⟩; simp [go_sem, dJ_mk]; ((repeat' (first|(refine ag_x ?_;simp [go_sem, dJ_mk])|intro _|apply And.intro|(apply Yh;clear Yh Y)));all_goals first|apply Hold.mk|omega|with_reducible assumption|skip))
    (refine awp_ret ?_; simp [go_sem, retA])
    rw [if_neg q34, if_pos q]
    exact ⟨_, _, _, hv, by simp [dJ_mk], rfl, rfl⟩
   ·have q91 : ¬ c = 91 := fun q => by rw [q] at h4; exact h4 rfl
    rw [if_neg q91] at hpan
    (refine awp_sr fun Y Yh => ?_; simp [go_sem]; ((repeat' (first|(refine ag_x ?_;simp [go_sem])|intro _|apply And.intro|(apply Yh;clear Yh Y)));all_goals first|apply Hold.mk|omega|with_reducible assumption|skip))
    (refine awp_if fun T F hT hF => ?_; simp [go_sem]; refine BR.intro (fun h5 => hT ?_) (fun h5 => hF ?_); all_goals clear hT hF T F; try simp at h5)
    ·have q : c = 123 := (u8i c 123).1 (h5.trans rfl)
     obtain ⟨hd5, hn5⟩ := lim (by rw [q]; rfl)
     rw [if_pos q] at hpan
     (refine awp_sr fun Y Yh => ?_; simp [go_sem]; ((repeat' (first|(refine ag_x ?_;simp [go_sem])|intro _|apply And.intro|(apply Yh;clear Yh Y)));all_goals first|apply Hold.mk|omega|with_reducible assumption|skip))
     (refine callA_x [900002] (by first|exact .inl ⟨rfl,rfl⟩|exact .inr rfl) (by simp [go_sem]) ?_; intro args ha; simp [go_sem] at ha; subst ha; refine ⟨_, _, _, (object_read g s f d b (n + 1) hl hlt hd5 hn5 (by omega) (fun f' h => H f' (by omega))), (by simp [go_sem, dJ_mk]), hpan, ?_⟩; rintro ps r hps ⟨⟨k, t, ns, xs⟩, b2, m, hv, rfl, rfl⟩; simp [go_sem, dJ_mk]; ((repeat' (first|(refine ag_x ?_;simp [go_sem, dJ_mk])|intro _|apply And.intro|(apply Yh;clear Yh Y)));all_goals first|apply Hold.mk|omega|with_reducible assumption|skip))
     (refine awp_ret ?_; simp [go_sem, retA])
     rw [if_neg q34, if_neg q91, if_pos q]
     exact ⟨_, _, _, hv, by simp [dJ_mk], rfl, rfl⟩
    ·have q123 : ¬ c = 123 := fun q => by rw [q] at h5; exact h5 rfl
     rw [if_neg q123] at hpan
     (refine awp_sr fun Y Yh => ?_; simp [go_sem]; ((repeat' (first|(refine ag_x ?_;simp [go_sem])|intro _|apply And.intro|(apply Yh;clear Yh Y)));all_goals first|apply Hold.mk|omega|with_reducible assumption|skip))
     (refine awp_if fun T F hT hF => ?_; simp [go_sem]; refine BR.intro (fun h6 => hT ?_) (fun h6 => hF ?_); all_goals clear hT hF T F; try simp at h6)
     ·have q : c = 116 := (u8i c 116).1 (h6.trans rfl)
      obtain ⟨hd5, hn5⟩ := lim (by rw [q]; rfl)
      rw [if_pos q] at hpan
      (refine awp_sr fun Y Yh => ?_; simp [go_sem]; ((repeat' (first|(refine ag_x ?_;simp [go_sem])|intro _|apply And.intro|(apply Yh;clear Yh Y)));all_goals first|apply Hold.mk|omega|with_reducible assumption|skip))
      (refine callA_x [900002] (by first|exact .inl ⟨rfl,rfl⟩|exact .inr rfl) (by simp [go_sem]) ?_; intro args ha; simp [go_sem] at ha; subst ha; refine ⟨_, _, _, (word_spec g s [116, 114, 117, 101] 1 b (n + 1) hl (by simp) (by omega) (by omega)), (by simp [go_sem, dJ_mk]), (fun ch ⟨p, h1, h2⟩ => hpan _ ⟨_, _, by unfold wordR; rw [h1], h2⟩), ?_⟩; rintro ps r hps ⟨hw, rfl, rfl⟩; simp [go_sem, dJ_mk]; ((repeat' (first|(refine ag_x ?_;simp [go_sem, dJ_mk])|intro _|apply And.intro|(apply Yh;clear Yh Y)));all_goals first|apply Hold.mk|omega|with_reducible assumption|skip))
      (refine awp_ret ?_; simp [go_sem, retA])
      rw [if_neg q34, if_neg q91, if_neg q123, if_pos q]
      exact ⟨_, _, _, by unfold wordR; rw [hw], by simp [dJ_mk], by simp, by simp⟩
     ·have q116 : ¬ c = 116 := fun q => by rw [q] at h6; exact h6 rfl
      rw [if_neg q116] at hpan
      (refine awp_sr fun Y Yh => ?_; simp [go_sem]; ((repeat' (first|(refine ag_x ?_;simp [go_sem])|intro _|apply And.intro|(apply Yh;clear Yh Y)));all_goals first|apply Hold.mk|omega|with_reducible assumption|skip))
      (refine awp_if fun T F hT hF => ?_; simp [go_sem]; refine BR.intro (fun h7 => hT ?_) (fun h7 => hF ?_); all_goals clear hT hF T F; try simp at h7)
      ·have q : c = 102 := (u8i c 102).1 (h7.trans rfl)
       obtain ⟨hd5, hn5⟩ := lim (by rw [q]; rfl)
       rw [if_pos q] at hpan
       (refine awp_sr fun Y Yh => ?_; simp [go_sem]; ((repeat' (first|(refine ag_x ?_;simp [go_sem])|intro _|apply And.intro|(apply Yh;clear Yh Y)));all_goals first|apply Hold.mk|omega|with_reducible assumption|skip))
       (refine callA_x [900002] (by first|exact .inl ⟨rfl,rfl⟩|exact .inr rfl) (by simp [go_sem]) ?_; intro args ha; simp [go_sem] at ha; subst ha; refine ⟨_, _, _, (word_spec g s [102, 97, 108, 115, 101] 2 b (n + 1) hl (by simp) (by omega) (by omega)), (by simp [go_sem, dJ_mk]), (fun ch ⟨p, h1, h2⟩ => hpan _ ⟨_, _, by unfold wordR; rw [h1], h2⟩), ?_⟩; rintro ps r hps ⟨hw, rfl, rfl⟩; simp [go_sem, dJ_mk]; ((repeat' (first|(refine ag_x ?_;simp [go_sem, dJ_mk])|intro _|apply And.intro|(apply Yh;clear Yh Y)));all_goals first|apply Hold.mk|omega|with_reducible assumption|skip))
       (refine awp_ret ?_; simp [go_sem, retA])
       rw [if_neg q34, if_neg q91, if_neg q123, if_neg q116, if_pos q]
       exact ⟨_, _, _, by unfold wordR; rw [hw], by simp [dJ_mk], by simp, by simp⟩
      ·have q102 : ¬ c = 102 := fun q => by rw [q] at h7; exact h7 rfl
       rw [if_neg q102] at hpan
       (refine awp_sr fun Y Yh => ?_; simp [go_sem]; ((repeat' (first|(refine ag_x ?_;simp [go_sem])|intro _|apply And.intro|(apply Yh;clear Yh Y)));all_goals first|apply Hold.mk|omega|with_reducible assumption|skip))
       (refine awp_if fun T F hT hF => ?_; simp [go_sem]; refine BR.intro (fun h8 => hT ?_) (fun h8 => hF ?_); all_goals clear hT hF T F; try simp at h8)
       ·have q : c = 110 := (u8i c 110).1 (h8.trans rfl)
        obtain ⟨hd5, hn5⟩ := lim (by rw [q]; rfl)
        rw [if_pos q] at hpan
        (refine awp_sr fun Y Yh => ?_; simp [go_sem]; ((repeat' (first|(refine ag_x ?_;simp [go_sem])|intro _|apply And.intro|(apply Yh;clear Yh Y)));all_goals first|apply Hold.mk|omega|with_reducible assumption|skip))
        (refine callA_x [900002] (by first|exact .inl ⟨rfl,rfl⟩|exact .inr rfl) (by simp [go_sem]) ?_; intro args ha; simp [go_sem] at ha; subst ha; refine ⟨_, _, _, (word_spec g s [110, 117, 108, 108] 0 b (n + 1) hl (by simp) (by omega) (by omega)), (by simp [go_sem, dJ_mk]), (fun ch ⟨p, h1, h2⟩ => hpan _ ⟨_, _, by unfold wordR; rw [h1], h2⟩), ?_⟩; rintro ps r hps ⟨hw, rfl, rfl⟩; simp [go_sem, dJ_mk]; ((repeat' (first|(refine ag_x ?_;simp [go_sem, dJ_mk])|intro _|apply And.intro|(apply Yh;clear Yh Y)));all_goals first|apply Hold.mk|omega|with_reducible assumption|skip))
        (refine awp_ret ?_; simp [go_sem, retA])
        rw [if_neg q34, if_neg q91, if_neg q123, if_neg q116, if_neg q102, if_pos q]
        exact ⟨_, _, _, by unfold wordR; rw [hw], by simp [dJ_mk], by simp, by simp⟩
       ·have q110 : ¬ c = 110 := fun q => by rw [q] at h8; exact h8 rfl
        rw [if_neg q110] at hpan
        (refine awp_sr fun Y Yh => ?_; simp [go_sem, starts_b]; ((repeat' (first|(refine ag_x ?_;simp [go_sem, starts_b])|intro _|apply And.intro|(apply Yh;clear Yh Y)));all_goals first|apply Hold.mk|omega|with_reducible assumption|skip))
        (refine awp_if fun T F hT hF => ?_; simp [go_sem]; refine BR.intro (fun h9 => hT ?_) (fun h9 => hF ?_); all_goals clear hT hF T F; try simp at h9)
        ·rw [if_pos (by simpa using h9)] at hpan
         (refine awp_r fun Y Yh => ?_; simp [go_sem]; ((repeat' (first|(refine ag_x ?_;simp [go_sem])|intro _|apply And.intro|(apply Yh;clear Yh Y)));all_goals first|apply Hold.mk|omega|with_reducible assumption|skip))
         (refine callA_x [900002] (by first|exact .inl ⟨rfl,rfl⟩|exact .inr rfl) (by simp [go_sem]) ?_; intro args ha; simp [go_sem] at ha; subst ha; exact ⟨_, _, _, (fail_spec g s b (n + 1) b (by omega)), (by simp [go_sem]), (fun ch h => hpan _ ⟨_, _, rfl, h⟩), fun _ _ _ h => h.elim⟩)
        ·have hs9 : starts c = true := by simpa using h9
         obtain ⟨hd5, hn5⟩ := lim hs9
         rw [if_neg (by simp [hs9])] at hpan
         refine awp_skip ?_
         refine hK2 _ ?_; clear hK2
         (refine awp_sr fun Y Yh => ?_; simp [go_sem]; ((repeat' (first|(refine ag_x ?_;simp [go_sem])|intro _|apply And.intro|(apply Yh;clear Yh Y)));all_goals first|apply Hold.mk|omega|with_reducible assumption|skip))
         (refine callA_x [900002] (by first|exact .inl ⟨rfl,rfl⟩|exact .inr rfl) (by simp [go_sem]) ?_; intro args ha; simp [go_sem] at ha; subst ha; refine ⟨_, _, _, (number_spec g s b (n + 1) hl (by omega)), (by simp [go_sem, dJ_mk]), (fun ch ⟨q, h1, h2⟩ => hpan _ ⟨q.1, q.2, by rw [h1], h2⟩), ?_⟩; rintro ps r hps ⟨⟨tx, b2⟩, hst, rfl, rfl⟩; simp [go_sem, dJ_mk]; ((repeat' (first|(refine ag_x ?_;simp [go_sem, dJ_mk])|intro _|apply And.intro|(apply Yh;clear Yh Y)));all_goals first|apply Hold.mk|omega|with_reducible assumption|skip))
         (refine awp_ret ?_; simp [go_sem, retA])
         rw [if_neg q34, if_neg q91, if_neg q123, if_neg q116, if_neg q102, if_neg q110, if_neg (by simp [hs9]), hst]
         exact ⟨_, _, _, rfl, by simp [dJ_mk], rfl, by simp⟩
theorem value_all (s : Bs) (hl : s.length ≤ 1000000) : ∀ f, ValOk s f := by
 intro f
 induction f using Nat.strongRecOn with
 | _ f ih =>
  cases f with
  | zero => intro g d a n ha hf; omega
  | succ f => exact value_step s f hl ih
end Go.Proofs.YtkgmecjaejaehaaGreatDoor
set_option linter.unusedSectionVars false
namespace Go.Eng
/-! code behind a 'defer' -/
def apD (a : Act) (ds : List Deferred) : Act := { a with defers := a.defers ++ ds }
section
variable {P : Program} {ds : List Deferred} {ops : Array Oper} {Q : Exit → Act → World → Prop}
theorem apD_put (a : Act) (d : Option Tmp) (v : Value) : (apD a ds).put d v = apD (a.put d v) ds := by cases d <;> rfl
theorem letsOut_un (h : LetsOut (fun e b w => Q e (apD b ds) w)) : LetsOut Q := let ⟨a, w, q⟩ := h; ⟨_, w, q⟩
theorem operWp_un {o : Oper} {a : Act} {w : World} {N : Act → World → Prop} (h : o.wp P a w (fun b w => N (apD b ds) w) (fun e b w => Q e (apD b ds) w)) : o.wp P (apD a ds) w N Q := by
 unfold Oper.wp at h ⊢
 have e : (apD a ds).eval = a.eval := rfl
 rw [e]
 generalize (execOp a.eval o).run P w = r at h ⊢
 cases r with
 | ok x w' =>
  cases x with
  | value v => simpa only [Oper.upon, apD_put] using h
  | skip => simpa only [Oper.upon, apD_put] using h
  | defer d =>
   simp only [Oper.upon] at h ⊢
   have e2 : ({ apD a ds with defers := d :: (apD a ds).defers } : Act).put o.dst undef = apD (({ a with defers := d :: a.defers } : Act).put o.dst undef) ds := by cases o.dst <;> rfl
   rw [e2]; exact h
  | enter f args =>
   simp only [Oper.upon] at h ⊢
   refine h.mono fun e w'' hq => ?_
   cases e with
   | returned v => simpa only [apD_put] using hq
   | panicked ch => exact hq
   | outgrown => exact letsOut_un hq
  | row r args =>
   simp only [Oper.upon] at h ⊢
   exact h.mono fun v w'' hq => by simpa only [apD_put] using hq
  | _ => exact h.elim
 | halt x w' =>
  cases x <;> first | exact h.elim | exact h
theorem wpList_un : ∀ (l : List Oper) (a : Act) (w : World), wpList P ops (fun e b w => Q e (apD b ds) w) l a w → wpList P ops Q l (apD a ds) w
 | [], a, w, h => h
 | o :: rest, a, w, h => by
  unfold wpList at h ⊢
  have ew : Region.wanted o (yielded ops (apD a ds).tmps) = Region.wanted o (yielded ops a.tmps) := rfl
  rw [ew]
  split
  ·rename_i hw
   rw [if_pos hw] at h
   rcases h with h | ⟨h1, h2⟩
   ·exact .inl (operWp_un (Oper.wp_mono (fun b w hb => wpList_un rest b w hb) h))
   ·exact .inr ⟨h1, letsOut_un h2⟩
  ·rename_i hw
   rw [if_neg hw] at h
   rw [apD_put]
   exact wpList_un rest _ w h
end
variable {P : Program} [HasGlob P]
def AWpD (P : Program) [HasGlob P] (n : Nat) (ds : List Deferred) (c : Code) (S : St) (Q : Exit → St → Prop) : Prop :=
 ∀ ⦃w0 : World⦄ ⦃B : Nat → Nat → Prop⦄ ⦃C0 : Ctx⦄ ⦃C : Ctx⦄ ⦃a : Act⦄ ⦃w : World⦄, Env P w0 B C0 → Inv w0 B C0 n S C a w → c.wp P (fun e b w => ∃ b0 S C, b = apD b0 ds ∧ Q e S ∧ Inv w0 B C0 n S C b0 w) (apD a ds) w
section
variable {n : Nat} {ds : List Deferred} {S : St} {Q : Exit → St → Prop}
theorem awpd_seq {x y : Code} (h : AWpD P n ds x S (thenQ (fun S' => AWpD P n ds y S' Q) Q)) : AWpD P n ds (.seq x y) S Q := fun _ _ _ _ _ _ E I => wp_seq (wp_mono (h E I) fun e b w ⟨b0, S', C', hb, q, i⟩ => by
 subst hb
 cases e <;> first | exact q E i | exact ⟨_, S', C', rfl, q, i⟩)
theorem awpd_skip (h : Q .normal S) : AWpD P n ds .skip S Q := fun _ _ _ C a _ E I => wp_skip ⟨a, S, C, rfl, h, I⟩
theorem awpd_ret (h : Q .ret S) : AWpD P n ds .ret S Q := fun _ _ _ C a _ E I => wp_ret ⟨a, S, C, rfl, h, I⟩
theorem awpd_cond {c : Operand} {x y : Code} (h : evK true S c fun d => ∃ b, d = .v (.bool b) ∧ (b = true → AWpD P n ds x S Q) ∧ (b = false → AWpD P n ds y S Q)) : AWpD P n ds (.cond c x y) S Q := fun _ _ _ _ a _ E I => by
 obtain ⟨d, ⟨b, rfl, h1, h0⟩, hr⟩ := evK_ok I h
 have hv := (hr rfl).v_inv
 refine wp_cond_split (a := apD a ds) (t := b) hv (fun hb => h1 hb E I) (fun hb => h0 hb E I)
theorem awpd_region {id : Nat} {ops : List Oper} (h : @aops P _ (noPan P) n ops ops S (Q .normal)) : AWpD P n ds (.region id ops.toArray false) S Q := fun _ _ _ _ a w E I =>
 wp_region_lit (wpList_un ops a w (aops_ok E I h _ (fun b w ⟨S, C, q, i⟩ => ⟨b, S, C, rfl, q, i⟩) panQ_no))
theorem awpd_renbox {c : Code} (t s' : Nat) {s g off : Nat} {cs : List D} (hl : look S.slots t = some (.ptr s g off)) (hx : look S.heap s = some (g, .box cs)) (h9 : 900000 ≤ s → 900000 ≤ s')
  (h : ∀ g', AWpD P n ds c (((S.drop s).hput s' g' (.box cs)).put t (.ptr s' g' off)) Q) : AWpD P n ds c S Q := by
 intro w0 B C0 C a w E I
 obtain ⟨g', C', u, I', hu, hv, ext⟩ := I.rename hx rfl s' h9
 refine h g' E (Inv.reslot I' (d := .ptr s g off) hl fun v hv' => ?_)
 cases hv' with
 | ptr _ _ _ b h1 =>
  have := ext.val _ _ _ hu
  rw [h1] at this
  simp only [Option.some.injEq] at this
  subst this
  exact .ptr _ _ _ _ hv
def minusH {α β : Type} (h : List (Nat × α)) (es : List (Nat × β)) : List (Nat × α) := h.filter fun p => (look es p.1).isNone
theorem minusH_look {α β : Type} {es : List (Nat × β)} : ∀ {h : List (Nat × α)} {s : Nat} {x : α}, look (minusH h es) s = some x → look h s = some x ∧ ∀ y, look es s ≠ some y
 | [], s, x, hx => by simp [minusH, look] at hx
 | (k, d) :: r, s, x, hx => by
  unfold minusH at hx
  rw [List.filter_cons] at hx
  split at hx
  ·rename_i hk
   simp only [look] at hx ⊢
   split at hx
   ·rename_i e
    subst e
    rw [if_pos rfl]
    refine ⟨hx, fun y hy => ?_⟩
    simp [hy] at hk
   ·rename_i e
    rw [if_neg e]
    exact minusH_look hx
  ·rename_i hk
   have ih := minusH_look (h := r) hx
   refine ⟨?_, ih.2⟩
   simp only [look]
   rw [if_neg]
   ·exact ih.1
   ·rintro rfl
    cases hl : look es k with
    | none => simp [hl] at hk
    | some y => exact ih.2 y hl
theorem awpd_regx {id : Nat} {pre suf : List Oper} {dst : Option Nat} {fx : Operand} {args : Array Operand} {tys : Array TypeId} {ty : TypeId} {pos : String} {after : Array Edge} (hd : dstOk n dst)
  (h : @aops P _ (noPan P) n (pre ++ ⟨dst, .call { callee := .value fx, args := args, argTypes := tys }, ty, pos, after, none⟩ :: suf) pre S fun S1 => evK true S1 fx fun df => evsK true S1 args.toList fun dx =>
   ∃ f caps es ss R X, FunD df f caps ∧ dx.flatMap (lentHs S1 ss) = [] ∧ XCall P f (lentL P S1 ss tys.toList dx ++ caps) es ss R X ∧ covL S1.heap es ∧ (∀ ch, X ch → Q (.panic ch) ⟨S1.slots, minusH S1.heap es⟩) ∧
    ∀ ps r, ps.length = ss.length → R ps r → @aops P _ (noPan P) n (pre ++ ⟨dst, .call { callee := .value fx, args := args, argTypes := tys }, ty, pos, after, none⟩ :: suf) suf ((putPs S1 ss ps).set dst r) (Q .normal)) :
  AWpD P n ds (.region id (pre ++ ⟨dst, .call { callee := .value fx, args := args, argTypes := tys }, ty, pos, after, none⟩ :: suf).toArray false) S Q := by
 intro w0 B C0 C a w E I
 refine wp_region_lit (wpList_un _ a w ?_)
 generalize hops : pre ++ (⟨dst, .call { callee := .value fx, args := args, argTypes := tys }, ty, pos, after, none⟩ : Oper) :: suf = ops at h ⊢
 have key : ∀ (l : List Oper) (S : St) (C : Ctx) (a : Act) (w : World) (K : St → Prop) (suf2 : List Oper) (Q2 : Exit → Act → World → Prop), Inv w0 B C0 n S C a w → @aops P _ (noPan P) n ops l S K → (∀ a w, NextOk w0 B C0 n K a w → wpList P ops.toArray Q2 suf2 a w) → wpList P ops.toArray Q2 (l ++ suf2) a w := by
  intro l
  induction l with
  | nil => intro S C a w K suf2 Q2 I h hQ; exact hQ _ _ ⟨S, C, h, I⟩
  | cons o rest ih =>
   intro S C a w K suf2 Q2 I h hQ
   unfold aops at h
   refine wpList_step fun K' hK' => ?_
   cases hg : o.guard with
   | none =>
    rw [hg] at h
    have hw : Region.wanted o (yielded ops.toArray a.tmps) = true := by simp [Region.wanted, hg]
    rw [if_pos hw]
    exact Oper.wp_mono' (st_ok E I h Q2 panQ_no) (fun a w ⟨S', C', h', I'⟩ => hK' _ _ (ih S' C' a w K suf2 Q2 I' h' hQ))
   | some p =>
    rw [hg] at h
    exact h E I K' Q2 (fun a w ⟨S', C', h', I'⟩ => hK' _ _ (ih S' C' a w K suf2 Q2 I' h' hQ)) panQ_no
 rw [← hops]
 rw [show (pre ++ (⟨dst, .call { callee := .value fx, args := args, argTypes := tys }, ty, pos, after, none⟩ : Oper) :: suf).toArray = ops.toArray by rw [hops]]
 refine key pre S C a w _ _ _ I h ?_
 clear I h
 rintro a w ⟨S1, C1, h, I⟩
 refine wpList_step fun K' hK' => ?_
 rw [if_pos (by simp [Region.wanted])]
 obtain ⟨df, dx, uf, us, ⟨f, caps, es, ss, R, X, hf, hh, hc, hes, hX, hR⟩, hfu, hrep, hrun⟩ := call_run (P := P) (o := ⟨dst, .call { callee := .value fx, args := args, argTypes := tys }, ty, pos, after, none⟩) I rfl h
 obtain ⟨cs, rfl, hcs⟩ := hf.rep hfu
 unfold Oper.wp
 rw [hrun f cs rfl hc.1]
 have hes' : ∀ s g x, look es s = some (g, x) → look S1.heap s = some (g, x) ∧ 900000 ≤ s ∧ notFroz x = true ∧ s ∈ ss := fun s g x hx => by
  have hm := hc.2.1 _ (look_mem hx)
  exact ⟨covL_ok hes s _ hx, hm⟩
 refine (hc.2.2 C1 w (us ++ cs.toList) I.ctxOk (E.now I) ((lentL_ok I hh hrep).append hcs) (fun s g b hb => I.heap s g b (hes' s g b hb).1)).mono ?_
 rintro e w' (⟨u, r, ps, C', rfl, hRr, hru, hok, ext, hp, hm, he, hl, hd', hfrm⟩ | ⟨ch, C', rfl, hx, hok, ext, hl, hd', hfrm⟩)
 ·have I' := I.afterL hes' ext hok hp hm he hl hd' hfrm
  refine hK' _ _ ?_
  exact aops_ok E (I'.set (dstOk_spec hd) hru) (hR ps r hp.1 hRr) _ (fun b w ⟨S, C, q, i⟩ => ⟨b, S, C, rfl, q, i⟩) panQ_no
 ·exact ⟨a, _, C', rfl, hX ch hx, I.afterX (S' := ⟨S1.slots, minusH S1.heap es⟩) (fun s g x hx => ⟨(hes' s g x hx).1, (hes' s g x hx).2.2.1⟩) (fun _ _ h => h) (fun s x h => minusH_look h) ext hok hl hd' hfrm⟩
theorem awpd_sr {id : Nat} {ops : List Oper} {y : Code} (h : ∀ K : St → Prop, (∀ S', Hold (AWpD P n ds y S' Q) → K S') → @aops P _ (noPan P) n ops ops S K) : AWpD P n ds (.seq (.region id ops.toArray false) y) S Q :=
 awpd_seq (awpd_region (h _ fun _ h => h.out))
theorem awpd_r {id : Nat} {ops : List Oper} (h : ∀ K : St → Prop, (∀ S', Hold (Q .normal S') → K S') → @aops P _ (noPan P) n ops ops S K) : AWpD P n ds (.region id ops.toArray false) S Q := awpd_region (h _ fun _ h => h.out)
theorem awpd_go {x y : Code} {K : St → Prop} {post : Exit → Act → World → Prop} {w0 : World} {B : Nat → Nat → Prop} {C0 C : Ctx} {a : Act} {w : World} (E : Env P w0 B C0) (I : Inv w0 B C0 n S C a w) (h : AWpD P n ds x S (fun e S' => e = .normal ∧ K S'))
  (hk : ∀ S' C' b w', K S' → Inv w0 B C0 n S' C' b w' → y.wp P post (apD b ds) w') : (Code.seq x y).wp P post (apD a ds) w :=
 wp_seq (wp_mono (h E I) fun e b w ⟨b0, S', C', hb, ⟨he, hK⟩, i⟩ => by subst hb; subst he; exact hk S' C' b0 w hK i)
theorem Inv.renbox {w0 : World} {B : Nat → Nat → Prop} {C0 C : Ctx} {a : Act} {w : World} (I : Inv w0 B C0 n S C a w) (t s' : Nat) {s g off : Nat} {cs : List D} (hl : look S.slots t = some (.ptr s g off)) (hx : look S.heap s = some (g, .box cs)) (h9 : 900000 ≤ s → 900000 ≤ s') :
  ∃ g' C', Inv w0 B C0 n (((S.drop s).hput s' g' (.box cs)).put t (.ptr s' g' off)) C' a w := by
 obtain ⟨g', C', u, I', hu, hv, ext⟩ := I.rename hx rfl s' h9
 refine ⟨g', C', Inv.reslot I' (d := .ptr s g off) hl fun v hv' => ?_⟩
 cases hv' with
 | ptr _ _ _ b h1 =>
  have := ext.val _ _ _ hu
  rw [h1] at this
  simp only [Option.some.injEq] at this
  subst this
  exact .ptr _ _ _ _ hv
theorem awpd_use {c : Code} {post : Exit → Act → World → Prop} {w0 : World} {B : Nat → Nat → Prop} {C0 C : Ctx} {a : Act} {w : World} (E : Env P w0 B C0) (I : Inv w0 B C0 n S C a w) (h : AWpD P n ds c S Q)
  (hp : ∀ e b0 S C w, Q e S → Inv w0 B C0 n S C b0 w → post e (apD b0 ds) w) : c.wp P post (apD a ds) w :=
 wp_mono (h E I) fun e b w ⟨b0, S, C, hb, q, i⟩ => by subst hb; exact hp e b0 S C w q i
def CallX (P : Program) [HasGlob P] (S1 : St) (df : D) (dx : List D) (tys : List TypeId) (KX : List PanicEntry → St → Prop) (KR : St → D → Prop) : Prop :=
 ∃ f caps es ss R X, FunD df f caps ∧ dx.flatMap (lentHs S1 ss) = [] ∧ XCall P f (lentL P S1 ss tys dx ++ caps) es ss R X ∧ covL S1.heap es ∧ (∀ ch, X ch → KX ch ⟨S1.slots, minusH S1.heap es⟩) ∧ ∀ ps r, ps.length = ss.length → R ps r → KR (putPs S1 ss ps) r
theorem awpd_regy {id : Nat} {pre suf : List Oper} {dst : Option Nat} {fx : Operand} {args : Array Operand} {tys : Array TypeId} {ty : TypeId} {pos : String} {after : Array Edge} (hd : dstOk n dst)
  (h : ∀ K : St → Prop, (∀ S1, (∀ KC : D → List D → Prop, (∀ df dx, CallX P S1 df dx tys.toList (fun ch S2 => Q (.panic ch) S2) (fun S2 r => @aops P _ (noPan P) n (pre ++ ⟨dst, .call { callee := .value fx, args := args, argTypes := tys }, ty, pos, after, none⟩ :: suf) suf (S2.set dst r) (Q .normal)) → KC df dx) →
   evK true S1 fx fun df => evsK true S1 args.toList fun dx => KC df dx) → K S1) → @aops P _ (noPan P) n (pre ++ ⟨dst, .call { callee := .value fx, args := args, argTypes := tys }, ty, pos, after, none⟩ :: suf) pre S K) :
  AWpD P n ds (.region id (pre ++ ⟨dst, .call { callee := .value fx, args := args, argTypes := tys }, ty, pos, after, none⟩ :: suf).toArray false) S Q :=
 awpd_regx hd (h _ fun S1 hS1 => hS1 _ fun df dx ⟨f, caps, es, ss, R, X, h1, h2, h3, h4, h5, h6⟩ => ⟨f, caps, es, ss, R, X, h1, h2, h3, h4, h5, fun ps r q1 q2 => h6 ps r q1 q2⟩)
theorem callX_l {S1 : St} {df : D} {dx : List D} {tys : List TypeId} {KX : List PanicEntry → St → Prop} {KR : St → D → Prop} {f : FuncId} {caps : List D} (ss : List Nat) (hf : FunD df f caps) (hh : dx.flatMap (lentHs S1 ss) = [])
  (h : ∀ args, lentL P S1 ss tys dx ++ caps = args → ∃ es R X, XCall P f args es ss R X ∧ covL S1.heap es ∧ (∀ ch, X ch → KX ch ⟨S1.slots, minusH S1.heap es⟩) ∧ ∀ ps r, ps.length = ss.length → R ps r → KR (putPs S1 ss ps) r) : CallX P S1 df dx tys KX KR := by
 obtain ⟨es, R, X, h1, h2, h3, h4⟩ := h _ rfl
 exact ⟨f, caps, es, ss, R, X, hf, hh, h1, h2, h3, h4⟩
theorem aops_k {ops l : List Oper} {K : St → Prop} (h : ∀ KK : St → Prop, (∀ S', Hold (K S') → KK S') → @aops P _ (noPan P) n ops l S KK) : @aops P _ (noPan P) n ops l S K := h _ fun _ h => h.out
end
end Go.Eng
