/- Part of a proof: see the last text. -/
import Derived.Test.YteekfnhhlcmcgaaGreatDoorH05
import Derived.Lib.FrozenHead2
import Derived.Shelf.RegionOpenPlain
import Derived.Test.YteekfnhhlcmcgaaGreatDoorH08
import Derived.Test.YteekfnhhlcmcgaaGreatDoorH07
set_option linter.unusedVariables false
set_option linter.unusedSimpArgs false
namespace Go.Proofs.YteekfnhhlcmcgaaGreatDoor
open Go.RowKit
theorem bX : Builder.Extra Tryz.prog Tryz.lays169_ren := Tryz.Builder_Extra_169
set_option maxHeartbeats 1000000 in
set_option maxRecDepth 100000 in
theorem cc_used (b : Nat) (w : World) (h0 : w.cell? ⟨b, 0, none⟩ = some (.pointer (some ⟨b, 0, none⟩))) :
  Calls Tryz.prog 154 #[.pointer (some ⟨b, 0, none⟩)] w fun e w' => e = .returned (.tuple #[]) ∧ w' = w := by
 obtain ⟨j, hj, _⟩ := Option.map_eq_some_iff.1 bX.sizeBuilder
 go_enter Tryz.func154, Tryz.ntmps154
 go_wp2
 rw [Lib.run_neq_ptr_same w _ Tryz.underlying187 hj]
 go_wp2
 go_end0
 exact ⟨rfl, rfl⟩
set_option maxHeartbeats 1000000 in
set_option maxRecDepth 100000 in
theorem cc_fresh (b : Nat) (w : World) (h0 : w.cell? ⟨b, 0, none⟩ = some (.pointer none)) (hsh : w.shape? b = some (190, 2)) (hfz : w.frozen? ⟨b, 0, none⟩ = false) :
  Calls Tryz.prog 154 #[.pointer (some ⟨b, 0, none⟩)] w fun e w' => e = .returned (.tuple #[]) ∧ w' = w.setCell ⟨b, 0, none⟩ (.pointer (some ⟨b, 0, none⟩)) := by
 obtain ⟨j, hj, hjs⟩ := Option.map_eq_some_iff.1 bX.sizeBuilder
 go_enter Tryz.func154, Tryz.ntmps154
 go_wp2
 rw [Lib.run_to_unsafe w ⟨b, 0, none⟩ Tryz.underlying187 Tryz.underlying268 hj (by rw [hjs]; decide) hsh (Nat.zero_lt_succ 1)]
 simp only [Result.andThen]
 rw [Oper.upon_value]
 go_wp2
 rw [run_callFunc_extern Tryz.func191 (by kernel_rfl) (by kernel_rfl) (by kernel_rfl) (e := Extern.AbiNoEscape.same) (by kernel_rfl)]
 rw [Lib.run_noEscape]
 simp only [Result.andThen]
 rw [Oper.upon_value]
 go_wp2
 rw [Lib.run_from_unsafe w ⟨b, 0, none⟩ Tryz.underlying268 Tryz.underlying187 hj hsh bX.liesBuilder]
 simp only [Result.andThen]
 rw [Oper.upon_value]
 go_wp2
 go_end0
 exact ⟨rfl, rfl⟩
section
variable {P : Program} {w : World}
theorem app_exact (t u e : TypeId) (i : TypeInfo) (ht : P.underlying t = some (.slice e)) (hu : P.underlying u = some .string) (hi : P.info? e = some i) (hz : i.zero = some (.int .u8 0))
  (hsize : i.size = 1) (hby : i.bytes = 1) (v : Value) (n : Nat) (xs : List Value) (hown : w.ownsRowF 0 e 1 v n xs) (s : ByteArray) (h63 : n + s.size ≤ maxLen) (hbytes : n + s.size ≤ 140737488355328) :
  ∃ v' w', (∀ ty, (Builtin.append_ #[t, u] ty #[v, .string s]).run P w = .ok v' w') ∧ w'.ownsRowF 0 e 1 v' (n + s.size) (xs ++ Lib.strCells s) ∧ w.grownBy w' v.ownBlock ∧
   (v'.ownBlock = v.ownBlock ∨ ∀ k, v'.ownBlock = some k → w.heap.size ≤ k) := by
 obtain ⟨v', w', h1, h2, h3, _⟩ := Lib.run_append_own_stringF (P := P) w 0 t u t e i ht hu hi hz hsize hby v n xs hown s h63 hbytes (Nat.zero_le _)
 refine ⟨v', w', fun _ => h1, h2, h3, ?_⟩
 have hsmall : n + s.size ≤ 9223372036854775807 := by simp only [maxLen] at h63; omega
 rcases hown.2 with ⟨rfl, rfl⟩ | ⟨g, cap, cur, fz, rfl, hbg, hg, hfz, hnc, hcm, hcs, htake⟩
 ·obtain ⟨v2, w2, q1, q2, _, _⟩ := Lib.run_append_own_string (P := P) w w.heap.size t u t e i ht hu hi hz hsize hby (.slice none 0 0) 0 xs ⟨hown.1, .inl ⟨rfl, rfl⟩⟩ s h63 hbytes (Nat.le_refl _)
  rw [h1] at q1
  injection q1 with q1 q1'
  subst q1 q1'
  refine .inr fun k hk => ?_
  rcases q2.2 with ⟨hv, _⟩ | ⟨g, cap, cur, hv, hb, _⟩
  ·rw [hv] at hk; cases hk
  ·rw [hv] at hk
   simp only [Value.ownBlock, Option.some.injEq] at hk
   omega
 ·have hxl : xs.length = n := by simpa using hown.1
  by_cases hroom : n + s.size ≤ cap
  ·have hr := Lib.run_append_room_stringF (P := P) w t u t e i ht hu hi hsize g n cap cur fz hg (by simpa using hfz) s hroom (by omega)
   rw [h1] at hr
   injection hr with q1 q1'
   subst q1
   exact .inl rfl
  ·have holds : ∀ j u, xs[j]? = some u → w.cell? ((⟨g, 0, none⟩ : Addr).add j) = some u := hown.cells (g := g) rfl
   have hr := Lib.run_append_grow_string (P := P) w t u t e i (.int .u8 0) ht hu hi hz ⟨g, 0, none⟩ n cap xs (by rw [hsize]; simpa using hxl) holds s (by omega) (by omega) (by rw [hby]; exact growslice_fits (by omega) (by omega))
   rw [h1] at hr
   injection hr with q1 q1'
   subst q1
   refine .inr fun k hk => ?_
   simp [Value.ownBlock] at hk
   omega
theorem wpList_app {ops : Array Oper} {rest : List Oper} {o : Oper} {a : Act} {Q : Exit → Act → World → Prop} (hgd : o.guard = none) (sl x : Operand) (t u : TypeId)
  (ho : o.op = .call { callee := .builtin .append, args := #[sl, x], argTypes := #[t, u] }) (v : Value) (hs : a.eval sl = v) (s : ByteArray) (hx : a.eval x = .string s)
  {v' : Value} {w' : World} (hr : ∀ ty, (Builtin.append_ #[t, u] ty #[v, .string s]).run P w = .ok v' w') (h : wpList P ops Q rest (a.put o.dst v') w') : wpList P ops Q (o :: rest) a w := by
 refine wpList_plain hgd fun K hK => ?_
 unfold Oper.wp execOp
 simp only [ho, resolve, invoke, builtin, Sem.run_bind, Sem.run_pure, Result.andThen_ok, List.map_toArray, List.map_cons, List.map_nil, hs, hx, hr]
 exact hK _ _ h
end
set_option maxHeartbeats 2000000 in
set_option maxRecDepth 100000 in
theorem ws_calls (b : Nat) (p v : Value) (l : List UInt8) (s : ByteArray) (w : World) (hb : w.heap[b]? = some (.cells #[p, v] 190 (0, 0))) (hp : p = .pointer none ∨ p = .pointer (some ⟨b, 0, none⟩))
  (hown : w.ownsRowF 0 5 1 v l.length (Lib.byteCells l)) (hne : v.ownBlock ≠ some b) (hlen : l.length + s.size ≤ 140737488355328) :
  Calls Tryz.prog 112 #[.pointer (some ⟨b, 0, none⟩), .string s] w fun e w' => e = .returned (.tuple #[.int .i64 s.size, .nilIface]) ∧
   ∃ v', w'.heap[b]? = some (.cells #[.pointer (some ⟨b, 0, none⟩), v'] 190 (0, 0)) ∧ w'.ownsRowF 0 5 1 v' (l.length + s.size) (Lib.byteCells l ++ Lib.strCells s) ∧
    (v'.ownBlock = v.ownBlock ∨ ∀ k, v'.ownBlock = some k → w.heap.size ≤ k) ∧ v'.ownBlock ≠ some b ∧
    w'.os = w.os ∧ w'.tape = w.tape ∧ w'.output = w.output ∧ w.heap.size ≤ w'.heap.size ∧ ∀ k, k < w.heap.size → k ≠ b → v.ownBlock ≠ some k → w'.heap[k]? = w.heap[k]? := by
 obtain ⟨i0, hi, hz0, hz1, hz2⟩ := info_parts bX.infoByte
 have hlt : b < w.heap.size := by
  rcases Nat.lt_or_ge b w.heap.size with h' | h'
  ·exact h'
  ·simp [Array.getElem?_eq_none h'] at hb
 have hcc : Calls Tryz.prog 154 #[.pointer (some ⟨b, 0, none⟩)] w fun e w' => e = .returned (.tuple #[]) ∧ w'.heap[b]? = some (.cells #[.pointer (some ⟨b, 0, none⟩), v] 190 (0, 0)) ∧ w'.os = w.os ∧ w'.tape = w.tape ∧ w'.output = w.output ∧ w'.heap.size = w.heap.size ∧
   ∀ k, k ≠ b → w'.heap[k]? = w.heap[k]? := by
  rcases hp with rfl | rfl
  ·refine (cc_fresh b w (by rw [Lib.cell_of_heap hb]; rfl) (by simp [World.shape?, hb]) (Lib.frozen_of_heap hb 0)).mono ?_
   rintro e w' ⟨rfl, rfl⟩
   exact ⟨rfl, heap_setCell_same _ _ _ _ _ _ hb, rfl, rfl, rfl, by simp, fun k hk => heap_setCell_other _ _ _ _ hk⟩
  ·refine (cc_used b w (by rw [Lib.cell_of_heap hb]; rfl)).mono ?_
   rintro e w' ⟨rfl, rfl⟩
   exact ⟨rfl, hb, rfl, rfl, rfl, rfl, fun _ _ => rfl⟩
 go_enter Tryz.func112, Tryz.ntmps112
 go_wp2_with (go_at_call 154; refine hcc.mono ?_)
 rintro e w1 ⟨rfl, hbk, ho1, ho2, ho3, hs1, hk1⟩
 have hown1 : w1.ownsRowF 0 5 1 v l.length (Lib.byteCells l) :=
  hown.kept (row := some b) ⟨ho1, ho2, ho3, by omega, fun k _ hk => hk1 k (fun e => hk (by simp [e]))⟩ (Or.inr hne)
 have c0 : w1.cell? ⟨b, 0, none⟩ = some (.pointer (some ⟨b, 0, none⟩)) := by rw [Lib.cell_of_heap hbk]; rfl
 have c1 : w1.cell? ⟨b, 1, none⟩ = some v := by rw [Lib.cell_of_heap hbk]; rfl
 obtain ⟨v', w2, hrun, hown', hgrow, hat⟩ := app_exact (P := Tryz.prog) (w := w1) 188 9 5 i0 Tryz.underlying188 Tryz.underlying9 hi hz0 hz1 hz2 v l.length _ hown1 s (by unfold maxLen; omega) hlen
 have hlt1 : b < w1.heap.size := by omega
 have hb2 : w2.heap[b]? = some (.cells #[.pointer (some ⟨b, 0, none⟩), v] 190 (0, 0)) := by
  rw [hgrow.block b hlt1 (fun e => hne e.symm)]
  exact hbk
 have d0 : w2.cell? ⟨b, 0, none⟩ = some (.pointer (some ⟨b, 0, none⟩)) := by rw [Lib.cell_of_heap hb2]; rfl
 have d1 : w2.cell? ⟨b, 1, none⟩ = some v := by rw [Lib.cell_of_heap hb2]; rfl
 have f1 : w2.frozen? ⟨b, 1, none⟩ = false := Lib.frozen_of_heap hb2 1
 have hne' : v'.ownBlock ≠ some b := by
  rcases hat with h | h
  ·rw [h]; exact hne
  ·intro e; have := h b e; omega
 obtain ⟨ao, n', cap, rfl⟩ : ∃ ao n' cap, v' = .slice ao n' cap := by
  rcases hown'.2 with ⟨hv, _⟩ | ⟨g, cap, cur, fz, hv, _⟩
  ·exact ⟨_, _, _, hv⟩
  ·exact ⟨_, _, _, hv⟩
 go_wp2_with (at_builtin; refine wpList_app rfl _ _ 188 9 rfl _ rfl s rfl hrun ?_)
 go_ret2
 refine ⟨rfl, _, heap_setCell_same _ _ _ _ _ _ hb2, ?_, ?_, hne', hgrow.os.trans ho1, hgrow.tape.trans ho2, hgrow.output.trans ho3, ?_, ?_⟩
 ·exact hown'.kept (row := some b) ⟨rfl, rfl, rfl, by simp, fun k _ hk => heap_setCell_other _ _ _ _ (fun e => hk (by simp [e]))⟩ (Or.inr hne')
 ·rcases hat with h | h
  ·exact .inl h
  ·exact .inr fun k hk => by have := h k hk; omega
 ·have := hgrow.size; simp; omega
 ·intro k hk hkb hkv
  rw [heap_setCell_other _ _ _ _ hkb, hgrow.block k (by omega) (fun e => hkv e.symm), hk1 k hkb]
theorem freeze_other (w : World) (ad : Addr) (m k : Nat) (h : k ≠ ad.block) : (w.freeze ad m).heap[k]? = w.heap[k]? := by
 unfold World.freeze
 by_cases hm : m = 0
 ·simp [hm]
 ·rw [if_neg hm]
  simp only [Array.getElem?_modify]
  rw [if_neg (fun e => h e.symm)]
theorem freeze_rest (w : World) (ad : Addr) (m : Nat) : (w.freeze ad m).heap.size = w.heap.size ∧ (w.freeze ad m).os = w.os ∧ (w.freeze ad m).tape = w.tape ∧ (w.freeze ad m).output = w.output := by
 unfold World.freeze
 by_cases hm : m = 0
 ·simp [hm]
 ·rw [if_neg hm]
  exact ⟨by simp, rfl, rfl, rfl⟩
set_option maxHeartbeats 2000000 in
set_option maxRecDepth 100000 in
theorem str_calls (b : Nat) (p v : Value) (l : List UInt8) (w : World) (hbk : w.heap[b]? = some (.cells #[p, v] 190 (0, 0))) (hown : w.ownsRowF 0 5 1 v l.length (Lib.byteCells l)) (hne : v.ownBlock ≠ some b) (h0 : l ≠ []) :
  Calls Tryz.prog 114 #[.pointer (some ⟨b, 0, none⟩)] w fun e w' => e = .returned (.string ⟨l.toArray⟩) ∧ w'.heap[b]? = some (.cells #[p, v] 190 (0, 0)) ∧ w'.ownsRowF 0 5 1 v l.length (Lib.byteCells l) ∧
   w'.os = w.os ∧ w'.tape = w.tape ∧ w'.output = w.output ∧ w.heap.size ≤ w'.heap.size ∧ ∀ k, k ≠ b → v.ownBlock ≠ some k → w'.heap[k]? = w.heap[k]? := by
 have hl0 : l.length ≠ 0 := by simpa using h0
 obtain ⟨g, cap, cur, fz, rfl, hbg, hg, hfz, hnc, hcm, hcs, htake⟩ : ∃ g cap cur fz, v = .slice (some ⟨g, 0, none⟩) l.length cap ∧ 0 ≤ g ∧ w.heap[g]? = some (.cells cur 5 fz) ∧ fz.2 ≤ l.length * 1 ∧ l.length ≤ cap ∧ cap ≤ maxLen ∧ cur.size = cap * 1 ∧ cur.toList.take (l.length * 1) = Lib.byteCells l := by
  rcases hown.2 with ⟨_, hz⟩ | ⟨g, cap, cur, fz, hv, r⟩
  ·exact absurd hz hl0
  ·exact ⟨g, cap, cur, fz, hv, r⟩
 have hgb : g ≠ b := fun e => hne (by simp [Value.ownBlock, e])
 have c1 : w.drew.cell? ⟨b, 1, none⟩ = some (.slice (some ⟨g, 0, none⟩) l.length cap) := by
  have : w.drew.heap[b]? = some (.cells #[p, .slice (some ⟨g, 0, none⟩) l.length cap] 190 (0, 0)) := hbk
  rw [Lib.cell_of_heap this]; rfl
 have hSD : (Builtin.unsafeSliceData_ #[188] 233 #[.slice (some ⟨g, 0, none⟩) l.length cap]).run Tryz.prog w.drew = .ok (.pointer (some ⟨g, 0, none⟩)) w.drew :=
  Lib.run_unsafeSliceData_row _ _ _ _ _ _ (by omega)
 have hUS : (Builtin.unsafeString_ #[233, 3] 9 #[.pointer (some ⟨g, 0, none⟩), .int .i64 l.length]).run Tryz.prog w.drew = .ok (.string ⟨l.toArray⟩) (w.drew.freeze ⟨g, 0, none⟩ l.length) := by
  refine Lib.run_unsafeString_row w.drew 233 3 9 5 Tryz.underlying233 bX.cellsByte g cur.size (by have hg' : w.drew.heap[g]? = some (.cells cur 5 fz) := hg; simp [World.shape?, hg']) l h0 (by omega) (by unfold maxLen at hcm; omega) ?_
  intro j x hx
  have := hown.cells (g := g) rfl j (.int .u8 x.toNat) (by simp [Lib.byteCells, hx])
  exact this
 have hA : Lib.BuilderAtF 190 5 0 b p (Lib.byteCells l) w.drew := ⟨Nat.zero_le _, _, hbk, by rw [Lib.byteCells_length]; exact hown, hne⟩
 have hF := hA.froze (g := g) (cap := cap) (by rw [Lib.byteCells_length]; exact c1)
 rw [Lib.byteCells_length] at hF
 obtain ⟨_, v', hb', hown', _⟩ := hF
 rw [Lib.byteCells_length] at hown'
 have hb2 : (w.drew.freeze ⟨g, 0, none⟩ l.length).heap[b]? = some (.cells #[p, .slice (some ⟨g, 0, none⟩) l.length cap] 190 (0, 0)) := (freeze_other _ _ _ _ (fun e => hgb e.symm)).trans hbk
 have hv : v' = .slice (some ⟨g, 0, none⟩) l.length cap := by
  rw [hb2] at hb'
  simp at hb'
  exact hb'.symm
 subst hv
 obtain ⟨f1, f2, f3, f4⟩ := freeze_rest w.drew ⟨g, 0, none⟩ l.length
 have hend : ∀ k, k ≠ b → (Value.slice (some ⟨g, 0, none⟩) l.length cap).ownBlock ≠ some k → (w.drew.freeze ⟨g, 0, none⟩ l.length).heap[k]? = w.heap[k]? :=
  fun k _ hk => freeze_other _ _ _ _ (fun e => hk (by simp [Value.ownBlock, e]))
 have mixed := Tryz.lays169.mixed
 go_enter Tryz.func114, Tryz.ntmps114
 go_wp2
 go_region_o
 all_goals (go_wp2; go_ret; exact ⟨rfl, hb2, hown', f2, f3, f4, Nat.le_of_eq f1.symm, hend⟩)
end Go.Proofs.YteekfnhhlcmcgaaGreatDoor
namespace Go.Proofs.YteekfnhhlcmcgaaGreatDoor
open Go.Eng Go.Wh Go.Ver
set_option maxRecDepth 20000
theorem strCells_eq (s : List UInt8) : Lib.strCells ⟨s.toArray⟩ = Lib.byteCells s := by
 simp [Lib.strCells, Lib.byteCells]
theorem wY (nb nr gb gr : Nat) (l s : List UInt8) (h1 : 900000 ≤ nb) (h2 : 900000 ≤ nr) (hd : nb ≠ nr) (hlen : l.length + s.length ≤ 140737488355328) :
  ACall Tryz.prog 112 [.ptr nb gb 0, dS s] [(nb, (gb, .bld 190 nr gr)), (nr, (gr, .brow 5 l))] [nb, nr] fun ps r => ∃ gr', ps = [(gb, .bld 190 nr gr'), (gr', .brow 5 (l ++ s))] ∧ r = .tup [dI s.length, .v .nilIface] := by
 refine wX (xs := [.string ⟨s.toArray⟩]) (x := .tuple #[.int .i64 s.length, .nilIface]) ⟨_, Tryz.func112, rfl, rfl⟩ h1 h2 hd (fun C w => ?_) fun b p v w _ hb hp hown hne => ?_
 ·refine .tup _ _ rfl fun j c u hc hu => ?_
  match j, hc, hu with
  | 0, hc, hu => simp at hc hu; subst hc hu; exact .v _
  | 1, hc, hu => simp at hc hu; subst hc hu; exact .v _
  | j + 2, hc, hu => simp at hc
 ·refine (ws_calls b p v l ⟨s.toArray⟩ w hb hp hown hne (by simpa [ByteArray.size] using hlen)).mono ?_
  rintro e w' ⟨he, v', q1, q2, q3, q4, q5, q6, q7, q8, q9⟩
  refine ⟨by simpa [ByteArray.size] using he, _, v', q1, .inr rfl, ?_, q3, q4, q5, q6, q7, q8, q9⟩
  rw [strCells_eq] at q2
  simpa [ByteArray.size, Lib.byteCells] using q2
theorem Qq (nb nr gb gr : Nat) (l : List UInt8) (h1 : 900000 ≤ nb) (h2 : 900000 ≤ nr) (hd : nb ≠ nr) (h0 : l ≠ []) :
  ACall Tryz.prog 114 [.ptr nb gb 0] [(nb, (gb, .bld 190 nr gr)), (nr, (gr, .brow 5 l))] [nb, nr] fun ps r => ∃ gr', ps = [(gb, .bld 190 nr gr'), (gr', .brow 5 l)] ∧ r = dS l := by
 refine wX (xs := []) (x := .string ⟨l.toArray⟩) ⟨_, Tryz.func114, rfl, rfl⟩ h1 h2 hd (fun C w => .v _) fun b p v w _ hb hp hown hne => ?_
 refine (str_calls b p v l w hb hown hne h0).mono ?_
 rintro e w' ⟨he, q1, q2, q3, q4, q5, q6, q7⟩
 exact ⟨he, p, v, q1, hp, q2, .inl rfl, hne, q3, q4, q5, q6, fun k _ => q7 k⟩
end Go.Proofs.YteekfnhhlcmcgaaGreatDoor
namespace Go.Proofs.YteekfnhhlcmcgaaGreatDoor
open Go.Eng Go.Wh Go.Ver Go.RowKit Go.Lk
set_option maxRecDepth 20000
attribute [local irreducible] AG CallA CallT AWp PCall ACall AgC
/-! the lock of nothing -/
theorem lastIdx_spec (s sub : Bs) (hs : s.length < 4611686018427387904) : PCall Tryz.prog 119 [dS s, dS sub] fun r => r = dI (Lib.lastIndex s sub) := by
 refine zt ⟨_, Tryz.func119, rfl, rfl⟩ fun C w us hc hg hr => ?_
 obtain rfl := repL_v (us := [.string ⟨s.toArray⟩, .string ⟨sub.toArray⟩]) hr
 refine (Tryz.strings_LastIndex ⟨s.toArray⟩ ⟨sub.toArray⟩ (by simpa [ByteArray.size] using hs) w).mono ?_
 rintro e w' ⟨rfl, rfl⟩
 exact ⟨_, _, rfl, by simp, .v _, Below.refl _ _⟩
theorem ba_take0 (s : List UInt8) (n : Nat) : ({ data := s.toArray } : ByteArray).extract 0 n = { data := (s.take n).toArray } := by
 apply ByteArray.ext
 simp
def hd0 : Bs := [71, 69, 77, 83, 10, 10, 87, 73, 83, 72, 10, 10]
def tx0 : Bs := [71, 69, 77, 83, 10, 10, 87, 73, 83, 72, 10, 10, 83, 85, 77, 32, 51, 55, 55, 50, 10]
def nm0 : Bs := [51, 55, 55, 50]
theorem sm0 : sumV hd0 hd0.length = 3772 := by decide +kernel
theorem it0 : Lib.itoa (3772 : Int) = nm0 := by
 unfold Lib.itoa
 rw [if_neg (by omega)]
 simp [Lib.decDigits, nm0]
theorem lk0_okk : LkOk lk0 := by unfold LkOk; simp
theorem lk0_vv : lockV lk0 = true := by decide
set_option maxHeartbeats 8000000 in
theorem Zh : PCall Tryz.prog 56 [dLk lk0] fun r => r = .tup [dS tx0, dI 0] := by 
 refine qw Tryz.func56 rfl rfl Tryz.ntmps56 (rs := [.tmp 2, .tmp 3]) (tys := [9, 35]) rfl rfl (by simp) ?_
 have CK := jh lk0 lk0_okk
 rw [lk0_vv] at CK
 (refine qc fun Y Yh=>?_;simp[go_sem];intro _;apply Yh;clear Yh Y;apply Xi)
 refine qA 1 rfl rfl ?_
 simp only [go_sem]
 refine qf fun K1 hK1 => ?_
 (refine qc fun Y Yh=>?_;simp[go_sem])
 ((try refine Xj ?_);refine qm (.inl ⟨rfl,rfl⟩) (by simp[go_sem]) ?_;intro args ha;simp[go_sem] at ha;subst ha;refine ⟨_, CK, ?_⟩;rintro _ rfl;simp[go_sem];apply Yh;clear Yh Y;apply Xi)
 (refine qc fun Y Yh=>?_;simp[go_sem];apply Yh;clear Yh Y;apply Xi)
 (refine qg fun T F hT hF=>?_;simp[go_sem];refine hF ?_;clear hT hF T F)
 refine qh ?_
 refine hK1 _ ?_; clear hK1
 refine X7 190 5 900000 900001 (by decide) (by decide) (by kernel_rfl) fun gb gr => ?_
 (refine qc fun Y Yh=>?_;simp[go_sem])
 (refine qR [900000, 900001] (.inl ⟨rfl,rfl⟩) (by simp[go_sem]) ?_;intro args ha;simp[go_sem] at ha;subst ha;refine ⟨_, _, (wY 900000 900001 gb gr [] _ (by decide) (by decide) (by decide) (by simp)), (by simp[go_sem]), ?_⟩;rintro ps r hps ⟨gr1, rfl, rfl⟩;simp[go_sem];apply Yh;clear Yh Y;apply Xi)
 refine qf fun K3 hK3 => ?_
 (refine qc fun Y Yh=>?_;simp[go_sem];apply Yh;clear Yh Y;apply Xi)
 refine qj ?_
 refine qx (σ := Unit) (fun _ => ⟨[(1, .rd [dPs [], dNs [], dPs []]), (5, .ptr 900000 gb 0), (20, dI 0), (21, dI 0)], [(900000, (gb, .bld 190 900001 gr1)), (900001, (gr1, .brow 5 [71, 69, 77, 83, 10]))]⟩) (fun _ => True) (fun _ => 0) () ?_ ?_ ?_
 ·(refine ql ?_ ?_ <;> simp[go_sem])
 ·trivial
 rintro ⟨⟩ _
 (refine qc fun Y Yh=>?_;simp[go_sem];apply Yh;clear Yh Y;apply Xi)
 refine qf fun K4 hK4 => ?_
 (refine qg fun T F hT hF=>?_;simp[go_sem];refine hF ?_;clear hT hF T F)
 refine qp ?_
 simp only [go_sem]
 refine hK3 _ ?_; clear hK3
 (refine qc fun Y Yh=>?_;simp[go_sem])
 (refine qR [900000, 900001] (.inl ⟨rfl,rfl⟩) (by simp[go_sem]) ?_;intro args ha;simp[go_sem] at ha;subst ha;refine ⟨_, _, (wY 900000 900001 gb gr1 [71, 69, 77, 83, 10] _ (by decide) (by decide) (by decide) (by decide)), (by simp[go_sem]), ?_⟩;rintro ps r hps ⟨gr2, rfl, rfl⟩;simp[go_sem];apply Yh;clear Yh Y;apply Xi)
 refine qf fun K5 hK5 => ?_
 (refine qc fun Y Yh=>?_;simp[go_sem];apply Yh;clear Yh Y;apply Xi)
 refine qj ?_
 refine qx (σ := Unit) (fun _ => ⟨[(5, .ptr 900000 gb 0), (53, dI 0), (54, dI 0)], [(900000, (gb, .bld 190 900001 gr2)), (900001, (gr2, .brow 5 [71, 69, 77, 83, 10, 10, 87, 73, 83, 72, 10]))]⟩) (fun _ => True) (fun _ => 0) () ?_ ?_ ?_
 ·(refine ql ?_ ?_ <;> simp[go_sem])
 ·trivial
 rintro ⟨⟩ _
 (refine qc fun Y Yh=>?_;simp[go_sem];apply Yh;clear Yh Y;apply Xi)
 refine qf fun K6 hK6 => ?_
 (refine qg fun T F hT hF=>?_;simp[go_sem];refine hF ?_;clear hT hF T F)
 refine qp ?_
 simp only [go_sem]
 refine hK5 _ ?_; clear hK5
 have hdl : hd0.length ≤ 1000 := by decide
 have hnl : nm0.length ≤ 1000 := by decide
 have SU := Qp hd0 (by decide)
 rw [sm0] at SU
 have IT := xX 3772 (by decide) (by decide)
 rw [it0] at IT
 (refine qc fun Y Yh=>?_;simp[go_sem])
 (refine qR [900000, 900001] (.inl ⟨rfl,rfl⟩) (by simp[go_sem]) ?_;intro args ha;simp[go_sem] at ha;subst ha;refine ⟨_, _, (wY 900000 900001 gb gr2 [71, 69, 77, 83, 10, 10, 87, 73, 83, 72, 10] _ (by decide) (by decide) (by decide) (by decide)), (by simp[go_sem]), ?_⟩;rintro ps r hps ⟨gr3, rfl, rfl⟩;simp[go_sem];apply Yh;clear Yh Y;apply Xi)
 refine qN (S' := ⟨[(5, .ptr 900000 gb 0)], [(900000, (gb, .bld 190 900001 gr3)), (900001, (gr3, .brow 5 hd0))]⟩) (by (refine ql ?_ ?_ <;> simp[go_sem, hd0])) ?_
 (refine qc fun Y Yh=>?_;simp[go_sem])
 (refine qR [900000, 900001] (.inl ⟨rfl,rfl⟩) (by simp[go_sem]) ?_;intro args ha;simp[go_sem] at ha;subst ha;refine ⟨_, _, (Qq 900000 900001 gb gr3 hd0 (by decide) (by decide) (by decide) (by decide)), (by simp[go_sem]), ?_⟩;rintro ps r hps ⟨gr4, rfl, rfl⟩;simp[go_sem];((repeat' apply And.intro);all_goals first|omega|skip))
 (refine qR [900000, 900001] (.inl ⟨rfl,rfl⟩) (by simp[go_sem]) ?_;intro args ha;simp[go_sem] at ha;subst ha;refine ⟨_, _, (Qq 900000 900001 gb gr4 hd0 (by decide) (by decide) (by decide) (by decide)), (by simp[go_sem]), ?_⟩;rintro ps r hps ⟨gr5, rfl, rfl⟩;simp[go_sem])
 ((try refine Xj ?_);refine qm (.inl ⟨rfl,rfl⟩) (by simp[go_sem]) ?_;intro args ha;simp[go_sem] at ha;subst ha;refine ⟨_, SU, ?_⟩;rintro _ rfl;simp[go_sem])
 ((try refine Xj ?_);refine qm (.inl ⟨rfl,rfl⟩) (by simp[go_sem]) ?_;intro args ha;simp[go_sem] at ha;subst ha;refine ⟨_, IT, ?_⟩;rintro _ rfl;simp[go_sem];((repeat' (first|apply And.intro|(apply Yh;clear Yh Y)));all_goals first|apply Xi|omega))
 (refine qi ?_;simp[go_sem, hd0, nm0, tx0])
 first | rfl | (apply ByteArray.ext; simp)
@[go_sem] abbrev bX0 (p : Int) (s : Bs) : Blk := .box [dI p, .v (.slice none 0 0), .v (.slice none 0 0), .v (.slice none 0 0), dS s]
theorem bX0_ok (gb : Nat) (p : Int) (s : Bs) : ∀ q ∈ [(900002, (gb, bX0 p s))], 900000 ≤ q.1 ∧ zn q.2.2 = true ∧ q.1 ∈ [900002] := by
 intro q hq
 simp only [List.mem_cons, List.mem_nil_iff, or_false] at hq
 subst hq; simp [zn]
set_option maxHeartbeats 8000000 in
theorem JA (gb : Nat) : ACall Tryz.prog 118 [.ptr 900002 gb 0, dS [71, 69, 77, 83]] [(900002, (gb, bX0 0 []))] [900002] fun ps r => ps = [(gb, bX0 1 [])] ∧ r = dB true := by
 refine zg Tryz.func118 rfl rfl Tryz.ntmps118 (rs := [.tmp 4]) (tys := [4]) rfl rfl (by simp) (bX0_ok gb 0 []) ?_
 (refine qc fun Y Yh=>?_;simp[go_sem];apply Yh;clear Yh Y;apply Xi)
 refine qf fun K1 hK1 => ?_
 (refine qc fun Y Yh=>?_;simp[go_sem];apply Yh;clear Yh Y;apply Xi)
 refine qj ?_
 refine qf fun K2 hK2 => ?_
 (refine qc fun Y Yh=>?_;simp[go_sem];apply Yh;clear Yh Y;apply Xi)
 (refine qg fun T F hT hF=>?_;simp[go_sem];refine hT ?_;clear hT hF T F)
 refine qh ?_
 refine hK2 _ ?_; clear hK2
 (refine qg fun T F hT hF=>?_;simp[go_sem];refine hT ?_;clear hT hF T F)
 (refine qc fun Y Yh=>?_;simp[go_sem];((repeat' (first|apply And.intro|(apply Yh;clear Yh Y)));all_goals first|apply Xi|omega))
 refine qN (S' := ⟨[(0, .ptr 900002 gb 0), (1, dS [71, 69, 77, 83])], [(900002, (gb, bX0 1 []))]⟩) (by (refine ql ?_ ?_ <;> simp[go_sem])) ?_
 refine qc fun Y Yh => ?_
 simp (maxSteps := 2000000) [go_sem]
 ((repeat' (first|intro _|apply And.intro|(apply Yh;clear Yh Y)));all_goals first|apply Xi|omega)
 (refine qi ?_;simp[go_sem])
set_option maxHeartbeats 8000000 in
theorem Jy (gb : Nat) : ACall Tryz.prog 118 [.ptr 900002 gb 0, dS [87, 73, 83, 72]] [(900002, (gb, bX0 2 []))] [900002] fun ps r => ps = [(gb, bX0 3 [])] ∧ r = dB true := by
 refine zg Tryz.func118 rfl rfl Tryz.ntmps118 (rs := [.tmp 4]) (tys := [4]) rfl rfl (by simp) (bX0_ok gb 2 []) ?_
 (refine qc fun Y Yh=>?_;simp[go_sem];apply Yh;clear Yh Y;apply Xi)
 refine qf fun K1 hK1 => ?_
 (refine qc fun Y Yh=>?_;simp[go_sem];apply Yh;clear Yh Y;apply Xi)
 refine qj ?_
 refine qf fun K2 hK2 => ?_
 (refine qc fun Y Yh=>?_;simp[go_sem];apply Yh;clear Yh Y;apply Xi)
 (refine qg fun T F hT hF=>?_;simp[go_sem];refine hF ?_;clear hT hF T F)
 (refine qB fun Y Yh=>?_;simp[go_sem];apply Yh;clear Yh Y;apply Xi)
 refine hK2 _ ?_; clear hK2
 (refine qg fun T F hT hF=>?_;simp[go_sem];refine hT ?_;clear hT hF T F)
 (refine qc fun Y Yh=>?_;simp[go_sem];((repeat' (first|apply And.intro|(apply Yh;clear Yh Y)));all_goals first|apply Xi|omega))
 refine qN (S' := ⟨[(0, .ptr 900002 gb 0), (1, dS [87, 73, 83, 72])], [(900002, (gb, bX0 3 []))]⟩) (by (refine ql ?_ ?_ <;> simp[go_sem])) ?_
 refine qc fun Y Yh => ?_
 simp (maxSteps := 2000000) [go_sem]
 ((repeat' (first|intro _|apply And.intro|(apply Yh;clear Yh Y)));all_goals first|apply Xi|omega)
 (refine qi ?_;simp[go_sem])
set_option maxHeartbeats 8000000 in
theorem Jz (gb : Nat) : ACall Tryz.prog 118 [.ptr 900002 gb 0, dS []] [(900002, (gb, bX0 1 []))] [900002] fun ps r => ps = [(gb, bX0 2 [])] ∧ r = dB true := by
 refine zg Tryz.func118 rfl rfl Tryz.ntmps118 (rs := [.tmp 4]) (tys := [4]) rfl rfl (by simp) (bX0_ok gb 1 []) ?_
 (refine qc fun Y Yh=>?_;simp[go_sem];apply Yh;clear Yh Y;apply Xi)
 refine qf fun K1 hK1 => ?_
 (refine qc fun Y Yh=>?_;simp[go_sem];apply Yh;clear Yh Y;apply Xi)
 refine qj ?_
 refine qf fun K2 hK2 => ?_
 (refine qc fun Y Yh=>?_;simp[go_sem];apply Yh;clear Yh Y;apply Xi)
 (refine qg fun T F hT hF=>?_;simp[go_sem];refine hF ?_;clear hT hF T F)
 (refine qB fun Y Yh=>?_;simp[go_sem];apply Yh;clear Yh Y;apply Xi)
 refine hK2 _ ?_; clear hK2
 (refine qg fun T F hT hF=>?_;simp[go_sem];refine hF ?_;clear hT hF T F)
 refine qf fun K4 hK4 => ?_
 (refine qc fun Y Yh=>?_;simp[go_sem];apply Yh;clear Yh Y;apply Xi)
 (refine qg fun T F hT hF=>?_;simp[go_sem];refine hT ?_;clear hT hF T F)
 refine qh ?_
 refine hK4 _ ?_; clear hK4
 (refine qg fun T F hT hF=>?_;simp[go_sem];refine hT ?_;clear hT hF T F)
 refine qf fun K5 hK5 => ?_
 (refine qc fun Y Yh=>?_;simp[go_sem];apply Yh;clear Yh Y;apply Xi)
 (refine qg fun T F hT hF=>?_;simp[go_sem];refine hT ?_;clear hT hF T F)
 (refine qc fun Y Yh=>?_;simp[go_sem];((repeat' (first|apply And.intro|(apply Yh;clear Yh Y)));all_goals first|apply Xi|omega))
 (refine qc fun Y Yh=>?_;simp[go_sem];apply Yh;clear Yh Y;apply Xi)
 (refine qi ?_;simp[go_sem])
set_option maxHeartbeats 8000000 in
theorem Jw (gb : Nat) : ACall Tryz.prog 118 [.ptr 900002 gb 0, dS []] [(900002, (gb, bX0 3 []))] [900002] fun ps r => ps = [(gb, bX0 4 [])] ∧ r = dB true := by
 refine zg Tryz.func118 rfl rfl Tryz.ntmps118 (rs := [.tmp 4]) (tys := [4]) rfl rfl (by simp) (bX0_ok gb 3 []) ?_
 (refine qc fun Y Yh=>?_;simp[go_sem];apply Yh;clear Yh Y;apply Xi)
 refine qf fun K1 hK1 => ?_
 (refine qc fun Y Yh=>?_;simp[go_sem];apply Yh;clear Yh Y;apply Xi)
 refine qj ?_
 refine qf fun K2 hK2 => ?_
 (refine qc fun Y Yh=>?_;simp[go_sem];apply Yh;clear Yh Y;apply Xi)
 (refine qg fun T F hT hF=>?_;simp[go_sem];refine hF ?_;clear hT hF T F)
 (refine qB fun Y Yh=>?_;simp[go_sem];apply Yh;clear Yh Y;apply Xi)
 refine hK2 _ ?_; clear hK2
 (refine qg fun T F hT hF=>?_;simp[go_sem];refine hF ?_;clear hT hF T F)
 refine qf fun K4 hK4 => ?_
 (refine qc fun Y Yh=>?_;simp[go_sem];apply Yh;clear Yh Y;apply Xi)
 (refine qg fun T F hT hF=>?_;simp[go_sem];refine hF ?_;clear hT hF T F)
 (refine qB fun Y Yh=>?_;simp[go_sem];apply Yh;clear Yh Y;apply Xi)
 refine hK4 _ ?_; clear hK4
 (refine qg fun T F hT hF=>?_;simp[go_sem];refine hT ?_;clear hT hF T F)
 refine qf fun K5 hK5 => ?_
 (refine qc fun Y Yh=>?_;simp[go_sem];apply Yh;clear Yh Y;apply Xi)
 (refine qg fun T F hT hF=>?_;simp[go_sem];refine hT ?_;clear hT hF T F)
 (refine qc fun Y Yh=>?_;simp[go_sem];((repeat' (first|apply And.intro|(apply Yh;clear Yh Y)));all_goals first|apply Xi|omega))
 (refine qc fun Y Yh=>?_;simp[go_sem];apply Yh;clear Yh Y;apply Xi)
 (refine qi ?_;simp[go_sem])
set_option maxHeartbeats 8000000 in
theorem Jv (gb : Nat) : ACall Tryz.prog 118 [.ptr 900002 gb 0, dS [83, 85, 77, 32, 51, 55, 55, 50]] [(900002, (gb, bX0 4 []))] [900002] fun ps r => ps = [(gb, bX0 5 [51, 55, 55, 50])] ∧ r = dB true := by
 refine zg Tryz.func118 rfl rfl Tryz.ntmps118 (rs := [.tmp 4]) (tys := [4]) rfl rfl (by simp) (bX0_ok gb 4 []) ?_
 have CP : PCall Tryz.prog 158 [dS [83, 85, 77, 32, 51, 55, 55, 50], dS [83, 85, 77, 32]] fun r => r = .tup [dS [51, 55, 55, 50], dB true] := Z8 [83, 85, 77, 32, 51, 55, 55, 50] [83, 85, 77, 32] (by decide) (by decide)
 have ND : PCall Tryz.prog 159 [dS [51, 55, 55, 50], .v (.func (.func 160) #[] #[])] fun r => r = dB false := wF [51, 55, 55, 50]
 (refine qc fun Y Yh=>?_;simp[go_sem];apply Yh;clear Yh Y;apply Xi)
 refine qf fun K1 hK1 => ?_
 (refine qc fun Y Yh=>?_;simp[go_sem];apply Yh;clear Yh Y;apply Xi)
 refine qj ?_
 refine qf fun K2 hK2 => ?_
 (refine qc fun Y Yh=>?_;simp[go_sem];apply Yh;clear Yh Y;apply Xi)
 (refine qg fun T F hT hF=>?_;simp[go_sem];refine hF ?_;clear hT hF T F)
 (refine qB fun Y Yh=>?_;simp[go_sem];apply Yh;clear Yh Y;apply Xi)
 refine hK2 _ ?_; clear hK2
 (refine qg fun T F hT hF=>?_;simp[go_sem];refine hF ?_;clear hT hF T F)
 refine qf fun K4 hK4 => ?_
 (refine qc fun Y Yh=>?_;simp[go_sem];apply Yh;clear Yh Y;apply Xi)
 (refine qg fun T F hT hF=>?_;simp[go_sem];refine hF ?_;clear hT hF T F)
 (refine qB fun Y Yh=>?_;simp[go_sem];apply Yh;clear Yh Y;apply Xi)
 refine hK4 _ ?_; clear hK4
 (refine qg fun T F hT hF=>?_;simp[go_sem];refine hF ?_;clear hT hF T F)
 (refine qc fun Y Yh=>?_;simp[go_sem];apply Yh;clear Yh Y;apply Xi)
 (refine qg fun T F hT hF=>?_;simp[go_sem];refine hT ?_;clear hT hF T F)
 (refine qc fun Y Yh=>?_;simp[go_sem];((repeat' (first|apply And.intro|(apply Yh;clear Yh Y)));all_goals first|apply Xi|omega))
 (refine qc fun Y Yh=>?_;simp[go_sem])
 ((try refine Xj ?_);refine qm (.inl ⟨rfl,rfl⟩) (by simp[go_sem]) ?_;intro args ha;simp[go_sem] at ha;subst ha;refine ⟨_, CP, ?_⟩;rintro _ rfl;simp[go_sem];apply Yh;clear Yh Y;apply Xi)
 (refine qc fun Y Yh=>?_;simp[go_sem];apply Yh;clear Yh Y;apply Xi)
 (refine qc fun Y Yh=>?_;simp[go_sem];((repeat' (refine qH ?_;simp[go_sem]))))
 (refine qX (dB false) (.inl ⟨rfl,rfl⟩) ?_ rfl ?_;(intro hc args ha;simp[go_sem] at ha;subst ha;exact ND);simp[go_sem];refine qH ?_;simp[go_sem];apply Yh;clear Yh Y;apply Xi)
 (refine qc fun Y Yh=>?_;simp[go_sem];((repeat' (first|(refine qH ?_;simp[go_sem])|(apply Yh;clear Yh Y)));all_goals apply Xi))
 (refine qi ?_;simp[go_sem])
def ls0 : List Bs := [[71, 69, 77, 83], [], [87, 73, 83, 72], [], [83, 85, 77, 32, 51, 55, 55, 50], []]
theorem sp0 : Lib.split tx0 [10] = ls0 := by rw [split_dots]; decide
theorem li0 : Lib.lastIndex tx0 [83, 85, 77, 32] = 12 := by decide
set_option maxHeartbeats 16000000 in
theorem QE : PCall Tryz.prog 57 [dS tx0] fun r => r = .tup [dLk lk0, dI 0, dI 0] := by 
 refine qw Tryz.func57 rfl rfl Tryz.ntmps57 (rs := [.cell 2 53, .tmp 3, .tmp 4]) (tys := [53, 3, 35]) rfl rfl (by simp) ?_
 have SS := zZ tx0 [10] (by decide) (by decide)
 rw [sp0] at SS
 have LI := lastIdx_spec tx0 [83, 85, 77, 32] (by decide)
 rw [li0] at LI
 have hll : ls0.length = 6 := rfl
 have htl : tx0.length = 21 := rfl
 have htk : tx0.take 12 = hd0 := rfl
 have SU := Qp hd0 (by decide)
 rw [sm0] at SU
 have IT := xX 3772 (by decide) (by decide)
 rw [it0] at IT
 have CK := jh lk0 lk0_okk
 rw [lk0_vv] at CK
 (refine qc fun Y Yh=>?_;simp[go_sem];intro _;apply Yh;clear Yh Y;apply Xi)
 rename_i g2
 (refine qc fun Y Yh=>?_;simp[go_sem];intro _;apply Yh;clear Yh Y;apply Xi)
 rename_i g5
 refine jJ 5 900002 rfl rfl (by decide) fun gb => ?_
 simp only [go_sem]
 (refine qc fun Y Yh=>?_;simp[go_sem])
 ((try refine Xj ?_);refine qm (.inl ⟨rfl,rfl⟩) (by simp[go_sem]) ?_;intro args ha;simp[go_sem] at ha;subst ha;refine ⟨_, SS, ?_⟩;rintro _ rfl;simp[go_sem];apply Yh;clear Yh Y;apply Xi)
 (refine qc fun Y Yh=>?_;simp[go_sem, hll];((repeat' (first|apply And.intro|(apply Yh;clear Yh Y)));all_goals first|apply Xi|omega))
 refine qf fun K1 hK1 => ?_
 (refine qc fun Y Yh=>?_;simp[go_sem];apply Yh;clear Yh Y;apply Xi)
 refine qj ?_
 refine qx (σ := Nat) (fun i => ⟨[(0, dS tx0), (2, .ptr 2 g2 0), (5, .ptr 900002 gb 0), (7, dI 5), (19, dSs ls0), (20, dI 6), (21, dI i)], [(2, (g2, .box [.v (.slice none 0 0), .v (.slice none 0 0), .v (.slice none 0 0)])), (900002, (gb, bX0 i (if i = 5 then [51, 55, 55, 50] else [])))]⟩) (fun i => i ≤ 5) (fun i => 5 - i) 0 ?_ ?_ ?_
 ·(refine ql ?_ ?_ <;> simp[go_sem, hll])
 ·simp
 rintro i hi
 (refine qc fun Y Yh=>?_;simp[go_sem];apply Yh;clear Yh Y;apply Xi)
 refine qf fun K8 hK8 => ?_
 (refine qg fun T F hT hF=>?_;simp[go_sem];refine BR.intro (fun h9=>hT ?_) (fun h9=>hF ?_);all_goals clear hT hF T F;try simp at h9)
 ·refine qh ?_
  refine hK8 _ ?_; clear hK8
  refine qf fun K10 hK10 => ?_
  refine qj ?_
  obtain ⟨l, hx⟩ : ∃ l, ls0[i]? = some l := ⟨_, List.getElem?_eq_getElem (by rw [hll]; omega)⟩
  have hcs : (i = 0 ∧ l = [71, 69, 77, 83]) ∨ (i = 1 ∧ l = []) ∨ (i = 2 ∧ l = [87, 73, 83, 72]) ∨ (i = 3 ∧ l = []) ∨ (i = 4 ∧ l = [83, 85, 77, 32, 51, 55, 55, 50]) ∨ (i = 5 ∧ l = []) := by
   match i, hi, hx with
   | 0, _, hx => simp [ls0] at hx; simp [hx]
   | 1, _, hx => simp [ls0] at hx; simp [hx]
   | 2, _, hx => simp [ls0] at hx; simp [hx]
   | 3, _, hx => simp [ls0] at hx; simp [hx]
   | 4, _, hx => simp [ls0] at hx; simp [hx]
   | 5, _, hx => simp [ls0] at hx; simp [hx]
  have LN : i < 5 → ACall Tryz.prog 118 [.ptr 900002 gb 0, dS l] [(900002, (gb, bX0 i (if i = 5 then [51, 55, 55, 50] else [])))] [900002] fun ps r => ps = [(gb, bX0 ((i + 1 : Nat) : Int) (if i + 1 = 5 then [51, 55, 55, 50] else []))] ∧ r = dB true := fun h => by
   rcases hcs with ⟨rfl, rfl⟩ | ⟨rfl, rfl⟩ | ⟨rfl, rfl⟩ | ⟨rfl, rfl⟩ | ⟨rfl, rfl⟩ | ⟨rfl, rfl⟩
   ·exact JA gb
   ·exact Jz gb
   ·exact Jy gb
   ·exact Jw gb
   ·exact Jv gb
   ·omega
  (refine qc fun Y Yh=>?_;simp[go_sem, hx];apply Yh;clear Yh Y;apply Xi)
  refine qf fun K11 hK11 => ?_
  by_cases hi2 : i = 5
  ·subst hi2
   have hl0 : l = [] := by
    rcases hcs with ⟨h, _⟩ | ⟨h, _⟩ | ⟨h, _⟩ | ⟨h, _⟩ | ⟨h, _⟩ | ⟨_, h⟩
    all_goals first | exact h | omega
   subst hl0
   (refine qc fun Y Yh=>?_;simp[go_sem];refine qH ?_;simp[go_sem];refine qH ?_;simp[go_sem];apply Yh;clear Yh Y;apply Xi)
   (refine qg fun T F hT hF=>?_;simp[go_sem];refine hT ?_;clear hT hF T F)
   refine qp ?_
   simp only [go_sem]
   refine hK1 _ ?_; clear hK1
   refine qf fun K2 hK2 => ?_
   (refine qc fun Y Yh=>?_;simp[go_sem];apply Yh;clear Yh Y;apply Xi)
   (refine qg fun T F hT hF=>?_;simp[go_sem];refine hF ?_;clear hT hF T F)
   refine qh ?_
   refine hK2 _ ?_; clear hK2
   (refine qc fun Y Yh=>?_;simp[go_sem])
   ((try refine Xj ?_);refine qm (.inl ⟨rfl,rfl⟩) (by simp[go_sem]) ?_;intro args ha;simp[go_sem] at ha;subst ha;refine ⟨_, LI, ?_⟩;rintro _ rfl;simp[go_sem, htl];apply Yh;clear Yh Y;apply Xi)
   refine qf fun K4 hK4 => ?_
   ((refine qE (.qs [0, 1, 2, 4, 3] (.kp 5 (.kp 6 (.qs [7] (.nil))))) (by kernel_rfl) ?_ ?_ ?_ ?_);kernel_rfl;exact (by decide +kernel);kernel_rfl;intro Y Yh;((repeat' (first|(refine qo fun Y Yh=>?_;simp[go_sem])|(refine qC fun Y Yh=>?_;simp[go_sem])|(apply Yh;clear Yh Y)))))
   ((try refine Xj ?_);refine qm (.inl ⟨rfl,rfl⟩) (by simp[go_sem]) ?_;intro args ha;simp[go_sem] at ha;subst ha;refine ⟨_, (by first | exact SU | (rw [ba_take0]; exact SU)), ?_⟩;rintro _ rfl;simp[go_sem];((repeat' (first|(refine qC fun Y Yh=>?_;simp[go_sem])|(apply Yh;clear Yh Y)))))
   ((try refine Xj ?_);refine qm (.inl ⟨rfl,rfl⟩) (by simp[go_sem]) ?_;intro args ha;simp[go_sem] at ha;subst ha;refine ⟨_, IT, ?_⟩;rintro _ rfl;simp[go_sem];((repeat' (first|refine qy ?_|(refine qo fun Y Yh=>?_;simp[go_sem])|(apply Yh;clear Yh Y)));all_goals apply Xi))
   (refine qg fun T F hT hF=>?_;simp[go_sem, nm0];refine hF ?_;clear hT hF T F)
   refine qh ?_
   refine hK4 _ ?_; clear hK4
   refine qf fun K6 hK6 => ?_
   (refine qc fun Y Yh=>?_;simp[go_sem])
   ((try refine Xj ?_);refine qm (.inl ⟨rfl,rfl⟩) (by simp[go_sem]) ?_;intro args ha;simp[go_sem] at ha;subst ha;refine ⟨_, CK, ?_⟩;rintro _ rfl;simp[go_sem];apply Yh;clear Yh Y;apply Xi)
   (refine qc fun Y Yh=>?_;simp[go_sem];apply Yh;clear Yh Y;apply Xi)
   (refine qg fun T F hT hF=>?_;simp[go_sem];refine hF ?_;clear hT hF T F)
   refine qh ?_
   refine hK6 _ ?_; clear hK6
   (refine qc fun Y Yh=>?_;simp[go_sem];apply Yh;clear Yh Y;apply Xi)
   (refine qi ?_;simp[go_sem])
  ·have hne2 : ¬ (i : Int) = 5 := by omega
   have LN := LN (by omega)
   generalize hs1 : (if i = 5 then ([51, 55, 55, 50] : Bs) else []) = s1 at *
   (refine qc fun Y Yh=>?_;simp[go_sem, hi2, hne2];((repeat' (first|(refine qG ?_ ?_ ?_;(focus (simp[go_sem, undef, hi2, hne2];done));(focus (simp[go_sem];done));simp[go_sem, hi2, hne2])|(apply Yh;clear Yh Y)));all_goals apply Xi))
   (refine qg fun T F hT hF=>?_;simp[go_sem, hi2, hne2];refine hF ?_;clear hT hF T F)
   refine qh ?_
   refine hK11 _ ?_; clear hK11
   (refine qc fun Y Yh=>?_;simp[go_sem, hi2, hne2];((repeat' (refine qJ ?_ ?_;(focus (simp[go_sem, undef, hi2, hne2];done));simp[go_sem, hi2, hne2]))))
   (refine qR [900002] (.inl ⟨rfl,rfl⟩) (by simp[go_sem]) ?_;intro args ha;simp[go_sem] at ha;subst ha;refine ⟨_, _, LN, (by simp[go_sem, hi2, hne2]), ?_⟩;rintro ps r hps ⟨rfl, rfl⟩;simp[go_sem, hi2, hne2];refine qJ ?_ ?_;(focus (simp[go_sem, undef, hi2, hne2];done));simp[go_sem, hi2, hne2];apply Yh;clear Yh Y;apply Xi)
   (refine qg fun T F hT hF=>?_;simp[go_sem];refine hF ?_;clear hT hF T F)
   refine qh ?_
   refine hK10 _ ?_; clear hK10
   (refine qB fun Y Yh=>?_;simp[go_sem];((repeat' (first|apply And.intro|(apply Yh;clear Yh Y)));all_goals first|apply Xi|omega))
   refine ⟨i + 1, ?_, by omega, by omega⟩
   (refine ql ?_ ?_ <;> simp[go_sem])
 ·omega
set_option maxHeartbeats 4000000 in
theorem Qy : PCall Tryz.prog 20 [] fun r => r = dB true := by 
 refine qw Tryz.func20 rfl rfl Tryz.ntmps20 (rs := [.tmp 0]) (tys := [4]) rfl rfl (by simp) ?_
 have T0 := Zh
 have PS := QE
 (refine qc fun Y Yh=>?_;simp[go_sem];apply Yh;clear Yh Y;apply Xi)
 (refine qc fun Y Yh=>?_;simp[go_sem])
 ((try refine Xj ?_);refine qm (.inl ⟨rfl,rfl⟩) (by simp[go_sem]) ?_;intro args ha;simp[go_sem] at ha;subst ha;refine ⟨_, T0, ?_⟩;rintro _ rfl;simp[go_sem];apply Yh;clear Yh Y;apply Xi)
 (refine qc fun Y Yh=>?_;simp[go_sem])
 ((try refine Xj ?_);refine qm (.inl ⟨rfl,rfl⟩) (by simp[go_sem]) ?_;intro args ha;simp[go_sem] at ha;subst ha;refine ⟨_, PS, ?_⟩;rintro _ rfl;simp[go_sem];intro _;apply Yh;clear Yh Y;apply Xi)
 (refine qc fun Y Yh=>?_;simp[go_sem];((repeat' (first|(refine qH ?_;simp[go_sem])|(apply Yh;clear Yh Y)));all_goals apply Xi))
 (refine qi ?_;simp[go_sem, tx0])
end Go.Proofs.YteekfnhhlcmcgaaGreatDoor
