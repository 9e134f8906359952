/- Part of a proof: see the last text. -/
import Derived.Test.YteekfnhhlcmcgaaGreatDoorG05
import Derived.Test.YteekfnhhlcmcgaaGreatDoorG04
import Derived.Lib.FrozenHead2
import Derived.Shelf.RegionOpenPlain
import Derived.Test.YteekfnhhlcmcgaaGreatDoorGA
import Derived.Test.YteekfnhhlcmcgaaGreatDoorGB
import Derived.Lib.ItoaLen
set_option linter.unusedVariables false
set_option linter.unusedSimpArgs false
namespace Go.Proofs.YteekfnhhlcmcgaaGreatDoor
open Go.RowKit
theorem bX : Builder.Extra Tryz.prog Tryz.lays169_ren := Tryz.Builder_Extra_169
set_option maxHeartbeats 1000000 in
set_option maxRecDepth 100000 in
theorem cc_used (b : Nat) (w : World) (h0 : w.cell? ⟨b, 0, none⟩ = some (.pointer (some ⟨b, 0, none⟩))) :
  Calls Tryz.prog 154 #[.pointer (some ⟨b, 0, none⟩)] w fun e w' => e = .returned (.tuple #[]) ∧ w' = w := by
 obtain ⟨j, hj, _⟩ := Option.map_eq_some_iff.1 bX.sizeBuilder
 go_enter Tryz.func154, Tryz.ntmps154
 go_wp2
 rw [Lib.run_neq_ptr_same w _ Tryz.underlying187 hj]
 go_wp2
 go_end0
 exact ⟨rfl, rfl⟩
set_option maxHeartbeats 1000000 in
set_option maxRecDepth 100000 in
theorem cc_fresh (b : Nat) (w : World) (h0 : w.cell? ⟨b, 0, none⟩ = some (.pointer none)) (hsh : w.shape? b = some (190, 2)) (hfz : w.frozen? ⟨b, 0, none⟩ = false) :
  Calls Tryz.prog 154 #[.pointer (some ⟨b, 0, none⟩)] w fun e w' => e = .returned (.tuple #[]) ∧ w' = w.setCell ⟨b, 0, none⟩ (.pointer (some ⟨b, 0, none⟩)) := by
 obtain ⟨j, hj, hjs⟩ := Option.map_eq_some_iff.1 bX.sizeBuilder
 go_enter Tryz.func154, Tryz.ntmps154
 go_wp2
 rw [Lib.run_to_unsafe w ⟨b, 0, none⟩ Tryz.underlying187 Tryz.underlying268 hj (by rw [hjs]; decide) hsh (Nat.zero_lt_succ 1)]
 simp only [Result.andThen]
 rw [Oper.upon_value]
 go_wp2
 rw [run_callFunc_extern Tryz.func191 (by kernel_rfl) (by kernel_rfl) (by kernel_rfl) (e := Extern.AbiNoEscape.same) (by kernel_rfl)]
 rw [Lib.run_noEscape]
 simp only [Result.andThen]
 rw [Oper.upon_value]
 go_wp2
 rw [Lib.run_from_unsafe w ⟨b, 0, none⟩ Tryz.underlying268 Tryz.underlying187 hj hsh bX.liesBuilder]
 simp only [Result.andThen]
 rw [Oper.upon_value]
 go_wp2
 go_end0
 exact ⟨rfl, rfl⟩
section
variable {P : Program} {w : World}
theorem app_exact (t u e : TypeId) (i : TypeInfo) (ht : P.underlying t = some (.slice e)) (hu : P.underlying u = some .string) (hi : P.info? e = some i) (hz : i.zero = some (.int .u8 0))
  (hsize : i.size = 1) (hby : i.bytes = 1) (v : Value) (n : Nat) (xs : List Value) (hown : w.ownsRowF 0 e 1 v n xs) (s : ByteArray) (h63 : n + s.size ≤ maxLen) (hbytes : n + s.size ≤ 140737488355328) :
  ∃ v' w', (∀ ty, (Builtin.append_ #[t, u] ty #[v, .string s]).run P w = .ok v' w') ∧ w'.ownsRowF 0 e 1 v' (n + s.size) (xs ++ Lib.strCells s) ∧ w.grownBy w' v.ownBlock ∧
   (v'.ownBlock = v.ownBlock ∨ ∀ k, v'.ownBlock = some k → w.heap.size ≤ k) := by
 obtain ⟨v', w', h1, h2, h3, _⟩ := Lib.run_append_own_stringF (P := P) w 0 t u t e i ht hu hi hz hsize hby v n xs hown s h63 hbytes (Nat.zero_le _)
 refine ⟨v', w', fun _ => h1, h2, h3, ?_⟩
 have hsmall : n + s.size ≤ 9223372036854775807 := by simp only [maxLen] at h63; omega
 rcases hown.2 with ⟨rfl, rfl⟩ | ⟨g, cap, cur, fz, rfl, hbg, hg, hfz, hnc, hcm, hcs, htake⟩
 ·obtain ⟨v2, w2, q1, q2, _, _⟩ := Lib.run_append_own_string (P := P) w w.heap.size t u t e i ht hu hi hz hsize hby (.slice none 0 0) 0 xs ⟨hown.1, .inl ⟨rfl, rfl⟩⟩ s h63 hbytes (Nat.le_refl _)
  rw [h1] at q1
  injection q1 with q1 q1'
  subst q1 q1'
  refine .inr fun k hk => ?_
  rcases q2.2 with ⟨hv, _⟩ | ⟨g, cap, cur, hv, hb, _⟩
  ·rw [hv] at hk; cases hk
  ·rw [hv] at hk
   simp only [Value.ownBlock, Option.some.injEq] at hk
   omega
 ·have hxl : xs.length = n := by simpa using hown.1
  by_cases hroom : n + s.size ≤ cap
  ·have hr := Lib.run_append_room_stringF (P := P) w t u t e i ht hu hi hsize g n cap cur fz hg (by simpa using hfz) s hroom (by omega)
   rw [h1] at hr
   injection hr with q1 q1'
   subst q1
   exact .inl rfl
  ·have holds : ∀ j u, xs[j]? = some u → w.cell? ((⟨g, 0, none⟩ : Addr).add j) = some u := hown.cells (g := g) rfl
   have hr := Lib.run_append_grow_string (P := P) w t u t e i (.int .u8 0) ht hu hi hz ⟨g, 0, none⟩ n cap xs (by rw [hsize]; simpa using hxl) holds s (by omega) (by omega) (by rw [hby]; exact growslice_fits (by omega) (by omega))
   rw [h1] at hr
   injection hr with q1 q1'
   subst q1
   refine .inr fun k hk => ?_
   simp [Value.ownBlock] at hk
   omega
theorem wpList_app {ops : Array Oper} {rest : List Oper} {o : Oper} {a : Act} {Q : Exit → Act → World → Prop} (hgd : o.guard = none) (sl x : Operand) (t u : TypeId)
  (ho : o.op = .call { callee := .builtin .append, args := #[sl, x], argTypes := #[t, u] }) (v : Value) (hs : a.eval sl = v) (s : ByteArray) (hx : a.eval x = .string s)
  {v' : Value} {w' : World} (hr : ∀ ty, (Builtin.append_ #[t, u] ty #[v, .string s]).run P w = .ok v' w') (h : wpList P ops Q rest (a.put o.dst v') w') : wpList P ops Q (o :: rest) a w := by
 refine wpList_plain hgd fun K hK => ?_
 unfold Oper.wp execOp
 simp only [ho, resolve, invoke, builtin, Sem.run_bind, Sem.run_pure, Result.andThen_ok, List.map_toArray, List.map_cons, List.map_nil, hs, hx, hr]
 exact hK _ _ h
end
set_option maxHeartbeats 2000000 in
set_option maxRecDepth 100000 in
theorem ws_calls (b : Nat) (p v : Value) (l : List UInt8) (s : ByteArray) (w : World) (hb : w.heap[b]? = some (.cells #[p, v] 190 (0, 0))) (hp : p = .pointer none ∨ p = .pointer (some ⟨b, 0, none⟩))
  (hown : w.ownsRowF 0 5 1 v l.length (Lib.byteCells l)) (hne : v.ownBlock ≠ some b) (hlen : l.length + s.size ≤ 140737488355328) :
  Calls Tryz.prog 112 #[.pointer (some ⟨b, 0, none⟩), .string s] w fun e w' => e = .returned (.tuple #[.int .i64 s.size, .nilIface]) ∧
   ∃ v', w'.heap[b]? = some (.cells #[.pointer (some ⟨b, 0, none⟩), v'] 190 (0, 0)) ∧ w'.ownsRowF 0 5 1 v' (l.length + s.size) (Lib.byteCells l ++ Lib.strCells s) ∧
    (v'.ownBlock = v.ownBlock ∨ ∀ k, v'.ownBlock = some k → w.heap.size ≤ k) ∧ v'.ownBlock ≠ some b ∧
    w'.os = w.os ∧ w'.tape = w.tape ∧ w'.output = w.output ∧ w.heap.size ≤ w'.heap.size ∧ ∀ k, k < w.heap.size → k ≠ b → v.ownBlock ≠ some k → w'.heap[k]? = w.heap[k]? := by
 obtain ⟨i0, hi, hz0, hz1, hz2⟩ := info_parts bX.infoByte
 have hlt : b < w.heap.size := by
  rcases Nat.lt_or_ge b w.heap.size with h' | h'
  ·exact h'
  ·simp [Array.getElem?_eq_none h'] at hb
 have hcc : Calls Tryz.prog 154 #[.pointer (some ⟨b, 0, none⟩)] w fun e w' => e = .returned (.tuple #[]) ∧ w'.heap[b]? = some (.cells #[.pointer (some ⟨b, 0, none⟩), v] 190 (0, 0)) ∧ w'.os = w.os ∧ w'.tape = w.tape ∧ w'.output = w.output ∧ w'.heap.size = w.heap.size ∧
   ∀ k, k ≠ b → w'.heap[k]? = w.heap[k]? := by
  rcases hp with rfl | rfl
  ·refine (cc_fresh b w (by rw [Lib.cell_of_heap hb]; rfl) (by simp [World.shape?, hb]) (Lib.frozen_of_heap hb 0)).mono ?_
   rintro e w' ⟨rfl, rfl⟩
   exact ⟨rfl, heap_setCell_same _ _ _ _ _ _ hb, rfl, rfl, rfl, by simp, fun k hk => heap_setCell_other _ _ _ _ hk⟩
  ·refine (cc_used b w (by rw [Lib.cell_of_heap hb]; rfl)).mono ?_
   rintro e w' ⟨rfl, rfl⟩
   exact ⟨rfl, hb, rfl, rfl, rfl, rfl, fun _ _ => rfl⟩
 go_enter Tryz.func112, Tryz.ntmps112
 go_wp2_with (go_at_call 154; refine hcc.mono ?_)
 rintro e w1 ⟨rfl, hbk, ho1, ho2, ho3, hs1, hk1⟩
 have hown1 : w1.ownsRowF 0 5 1 v l.length (Lib.byteCells l) :=
  hown.kept (row := some b) ⟨ho1, ho2, ho3, by omega, fun k _ hk => hk1 k (fun e => hk (by simp [e]))⟩ (Or.inr hne)
 have c0 : w1.cell? ⟨b, 0, none⟩ = some (.pointer (some ⟨b, 0, none⟩)) := by rw [Lib.cell_of_heap hbk]; rfl
 have c1 : w1.cell? ⟨b, 1, none⟩ = some v := by rw [Lib.cell_of_heap hbk]; rfl
 obtain ⟨v', w2, hrun, hown', hgrow, hat⟩ := app_exact (P := Tryz.prog) (w := w1) 188 9 5 i0 Tryz.underlying188 Tryz.underlying9 hi hz0 hz1 hz2 v l.length _ hown1 s (by unfold maxLen; omega) hlen
 have hlt1 : b < w1.heap.size := by omega
 have hb2 : w2.heap[b]? = some (.cells #[.pointer (some ⟨b, 0, none⟩), v] 190 (0, 0)) := by
  rw [hgrow.block b hlt1 (fun e => hne e.symm)]
  exact hbk
 have d0 : w2.cell? ⟨b, 0, none⟩ = some (.pointer (some ⟨b, 0, none⟩)) := by rw [Lib.cell_of_heap hb2]; rfl
 have d1 : w2.cell? ⟨b, 1, none⟩ = some v := by rw [Lib.cell_of_heap hb2]; rfl
 have f1 : w2.frozen? ⟨b, 1, none⟩ = false := Lib.frozen_of_heap hb2 1
 have hne' : v'.ownBlock ≠ some b := by
  rcases hat with h | h
  ·rw [h]; exact hne
  ·intro e; have := h b e; omega
 obtain ⟨ao, n', cap, rfl⟩ : ∃ ao n' cap, v' = .slice ao n' cap := by
  rcases hown'.2 with ⟨hv, _⟩ | ⟨g, cap, cur, fz, hv, _⟩
  ·exact ⟨_, _, _, hv⟩
  ·exact ⟨_, _, _, hv⟩
 go_wp2_with (at_builtin; refine wpList_app rfl _ _ 188 9 rfl _ rfl s rfl hrun ?_)
 go_ret2
 refine ⟨rfl, _, heap_setCell_same _ _ _ _ _ _ hb2, ?_, ?_, hne', hgrow.os.trans ho1, hgrow.tape.trans ho2, hgrow.output.trans ho3, ?_, ?_⟩
 ·exact hown'.kept (row := some b) ⟨rfl, rfl, rfl, by simp, fun k _ hk => heap_setCell_other _ _ _ _ (fun e => hk (by simp [e]))⟩ (Or.inr hne')
 ·rcases hat with h | h
  ·exact .inl h
  ·exact .inr fun k hk => by have := h k hk; omega
 ·have := hgrow.size; simp; omega
 ·intro k hk hkb hkv
  rw [heap_setCell_other _ _ _ _ hkb, hgrow.block k (by omega) (fun e => hkv e.symm), hk1 k hkb]
theorem freeze_other (w : World) (ad : Addr) (m k : Nat) (h : k ≠ ad.block) : (w.freeze ad m).heap[k]? = w.heap[k]? := by
 unfold World.freeze
 by_cases hm : m = 0
 ·simp [hm]
 ·rw [if_neg hm]
  simp only [Array.getElem?_modify]
  rw [if_neg (fun e => h e.symm)]
theorem freeze_rest (w : World) (ad : Addr) (m : Nat) : (w.freeze ad m).heap.size = w.heap.size ∧ (w.freeze ad m).os = w.os ∧ (w.freeze ad m).tape = w.tape ∧ (w.freeze ad m).output = w.output := by
 unfold World.freeze
 by_cases hm : m = 0
 ·simp [hm]
 ·rw [if_neg hm]
  exact ⟨by simp, rfl, rfl, rfl⟩
set_option maxHeartbeats 2000000 in
set_option maxRecDepth 100000 in
theorem str_calls (b : Nat) (p v : Value) (l : List UInt8) (w : World) (hbk : w.heap[b]? = some (.cells #[p, v] 190 (0, 0))) (hown : w.ownsRowF 0 5 1 v l.length (Lib.byteCells l)) (hne : v.ownBlock ≠ some b) (h0 : l ≠ []) :
  Calls Tryz.prog 114 #[.pointer (some ⟨b, 0, none⟩)] w fun e w' => e = .returned (.string ⟨l.toArray⟩) ∧ w'.heap[b]? = some (.cells #[p, v] 190 (0, 0)) ∧ w'.ownsRowF 0 5 1 v l.length (Lib.byteCells l) ∧
   w'.os = w.os ∧ w'.tape = w.tape ∧ w'.output = w.output ∧ w.heap.size ≤ w'.heap.size ∧ ∀ k, k ≠ b → v.ownBlock ≠ some k → w'.heap[k]? = w.heap[k]? := by
 have hl0 : l.length ≠ 0 := by simpa using h0
 obtain ⟨g, cap, cur, fz, rfl, hbg, hg, hfz, hnc, hcm, hcs, htake⟩ : ∃ g cap cur fz, v = .slice (some ⟨g, 0, none⟩) l.length cap ∧ 0 ≤ g ∧ w.heap[g]? = some (.cells cur 5 fz) ∧ fz.2 ≤ l.length * 1 ∧ l.length ≤ cap ∧ cap ≤ maxLen ∧ cur.size = cap * 1 ∧ cur.toList.take (l.length * 1) = Lib.byteCells l := by
  rcases hown.2 with ⟨_, hz⟩ | ⟨g, cap, cur, fz, hv, r⟩
  ·exact absurd hz hl0
  ·exact ⟨g, cap, cur, fz, hv, r⟩
 have hgb : g ≠ b := fun e => hne (by simp [Value.ownBlock, e])
 have c1 : w.drew.cell? ⟨b, 1, none⟩ = some (.slice (some ⟨g, 0, none⟩) l.length cap) := by
  have : w.drew.heap[b]? = some (.cells #[p, .slice (some ⟨g, 0, none⟩) l.length cap] 190 (0, 0)) := hbk
  rw [Lib.cell_of_heap this]; rfl
 have hSD : (Builtin.unsafeSliceData_ #[188] 233 #[.slice (some ⟨g, 0, none⟩) l.length cap]).run Tryz.prog w.drew = .ok (.pointer (some ⟨g, 0, none⟩)) w.drew :=
  Lib.run_unsafeSliceData_row _ _ _ _ _ _ (by omega)
 have hUS : (Builtin.unsafeString_ #[233, 3] 9 #[.pointer (some ⟨g, 0, none⟩), .int .i64 l.length]).run Tryz.prog w.drew = .ok (.string ⟨l.toArray⟩) (w.drew.freeze ⟨g, 0, none⟩ l.length) := by
  refine Lib.run_unsafeString_row w.drew 233 3 9 5 Tryz.underlying233 bX.cellsByte g cur.size (by have hg' : w.drew.heap[g]? = some (.cells cur 5 fz) := hg; simp [World.shape?, hg']) l h0 (by omega) (by unfold maxLen at hcm; omega) ?_
  intro j x hx
  have := hown.cells (g := g) rfl j (.int .u8 x.toNat) (by simp [Lib.byteCells, hx])
  exact this
 have hA : Lib.BuilderAtF 190 5 0 b p (Lib.byteCells l) w.drew := ⟨Nat.zero_le _, _, hbk, by rw [Lib.byteCells_length]; exact hown, hne⟩
 have hF := hA.froze (g := g) (cap := cap) (by rw [Lib.byteCells_length]; exact c1)
 rw [Lib.byteCells_length] at hF
 obtain ⟨_, v', hb', hown', _⟩ := hF
 rw [Lib.byteCells_length] at hown'
 have hb2 : (w.drew.freeze ⟨g, 0, none⟩ l.length).heap[b]? = some (.cells #[p, .slice (some ⟨g, 0, none⟩) l.length cap] 190 (0, 0)) := (freeze_other _ _ _ _ (fun e => hgb e.symm)).trans hbk
 have hv : v' = .slice (some ⟨g, 0, none⟩) l.length cap := by
  rw [hb2] at hb'
  simp at hb'
  exact hb'.symm
 subst hv
 obtain ⟨f1, f2, f3, f4⟩ := freeze_rest w.drew ⟨g, 0, none⟩ l.length
 have hend : ∀ k, k ≠ b → (Value.slice (some ⟨g, 0, none⟩) l.length cap).ownBlock ≠ some k → (w.drew.freeze ⟨g, 0, none⟩ l.length).heap[k]? = w.heap[k]? :=
  fun k _ hk => freeze_other _ _ _ _ (fun e => hk (by simp [Value.ownBlock, e]))
 have mixed := Tryz.lays169.mixed
 go_enter Tryz.func114, Tryz.ntmps114
 go_wp2
 go_region_o
 all_goals (go_wp2; go_ret; exact ⟨rfl, hb2, hown', f2, f3, f4, Nat.le_of_eq f1.symm, hend⟩)
end Go.Proofs.YteekfnhhlcmcgaaGreatDoor
namespace Go.Proofs.YteekfnhhlcmcgaaGreatDoor
open Go.Eng Go.Wh Go.Ver
set_option maxRecDepth 20000
theorem strCells_eq (s : List UInt8) : Lib.strCells ⟨s.toArray⟩ = Lib.byteCells s := by
 simp [Lib.strCells, Lib.byteCells]
theorem ws_spec (nb nr gb gr : Nat) (l s : List UInt8) (h1 : 900000 ≤ nb) (h2 : 900000 ≤ nr) (hd : nb ≠ nr) (hlen : l.length + s.length ≤ 140737488355328) :
  ACall Tryz.prog 112 [.ptr nb gb 0, dS s] [(nb, (gb, .bld 190 nr gr)), (nr, (gr, .brow 5 l))] [nb, nr] fun ps r => ∃ gr', ps = [(gb, .bld 190 nr gr'), (gr', .brow 5 (l ++ s))] ∧ r = .tup [dI s.length, .v .nilIface] := by
 refine acall_bld (xs := [.string ⟨s.toArray⟩]) (x := .tuple #[.int .i64 s.length, .nilIface]) ⟨_, Tryz.func112, rfl, rfl⟩ h1 h2 hd (fun C w => ?_) fun b p v w _ hb hp hown hne => ?_
 ·refine .tup _ _ rfl fun j c u hc hu => ?_
  match j, hc, hu with
  | 0, hc, hu => simp at hc hu; subst hc hu; exact .v _
  | 1, hc, hu => simp at hc hu; subst hc hu; exact .v _
  | j + 2, hc, hu => simp at hc
 ·refine (ws_calls b p v l ⟨s.toArray⟩ w hb hp hown hne (by simpa [ByteArray.size] using hlen)).mono ?_
  rintro e w' ⟨he, v', q1, q2, q3, q4, q5, q6, q7, q8, q9⟩
  refine ⟨by simpa [ByteArray.size] using he, _, v', q1, .inr rfl, ?_, q3, q4, q5, q6, q7, q8, q9⟩
  rw [strCells_eq] at q2
  simpa [ByteArray.size, Lib.byteCells] using q2
theorem str_spec (nb nr gb gr : Nat) (l : List UInt8) (h1 : 900000 ≤ nb) (h2 : 900000 ≤ nr) (hd : nb ≠ nr) (h0 : l ≠ []) :
  ACall Tryz.prog 114 [.ptr nb gb 0] [(nb, (gb, .bld 190 nr gr)), (nr, (gr, .brow 5 l))] [nb, nr] fun ps r => ∃ gr', ps = [(gb, .bld 190 nr gr'), (gr', .brow 5 l)] ∧ r = dS l := by
 refine acall_bld (xs := []) (x := .string ⟨l.toArray⟩) ⟨_, Tryz.func114, rfl, rfl⟩ h1 h2 hd (fun C w => .v _) fun b p v w _ hb hp hown hne => ?_
 refine (str_calls b p v l w hb hown hne h0).mono ?_
 rintro e w' ⟨he, q1, q2, q3, q4, q5, q6, q7⟩
 exact ⟨he, p, v, q1, hp, q2, .inl rfl, hne, q3, q4, q5, q6, fun k _ => q7 k⟩
end Go.Proofs.YteekfnhhlcmcgaaGreatDoor
namespace Go.Proofs.YteekfnhhlcmcgaaGreatDoor
open Go.Eng Go.Wh Go.Ver Go.RowKit Go.Lk
set_option maxRecDepth 20000
attribute [local irreducible] AG CallA CallT AWp PCall ACall AgC
@[go_sem] theorem ba_app (a b : Array UInt8) : (⟨a⟩ : ByteArray) ++ ⟨b⟩ = ⟨a ++ b⟩ := by
 apply ByteArray.ext
 simp
theorem wline_spec (ind : Bs) (n : Prs) (hi : ind.length ≤ 4) (hn : PrOk n) : PCall Tryz.prog 113 [dS ind, dP n] fun r => r = dS (wantL ind n) := by 
 refine pcall_of Tryz.func113 rfl rfl Tryz.ntmps113 (rs := [.tmp 4]) (tys := [9]) rfl rfl (by simp) ?_
 obtain ⟨a, b⟩ := n
 obtain ⟨hna, hnb⟩ := hn
 simp only at hna hnb
 unfold wantL
 simp only
 (refine awp_sr fun Y Yh => ?_; simp [go_sem]; ((repeat' (first|(refine ag_x ?_;simp [go_sem])|intro _|apply And.intro|(apply Yh;clear Yh Y)));all_goals first|apply Hold.mk|omega|assumption|skip))
 refine awp_seq_k fun K1 hK1 => ?_
 (refine awp_sr fun Y Yh => ?_; simp [go_sem]; ((repeat' (first|(refine ag_x ?_;simp [go_sem])|intro _|apply And.intro|(apply Yh;clear Yh Y)));all_goals first|apply Hold.mk|omega|assumption|skip))
 cases b with
 | nil =>
  (refine awp_if fun T F hT hF => ?_; simp [go_sem]; refine hT ?_; clear hT hF T F)
  (refine awp_sr fun Y Yh => ?_; simp [go_sem]; ((repeat' (first|(refine ag_x ?_;simp [go_sem])|intro _|apply And.intro|(apply Yh;clear Yh Y)));all_goals first|apply Hold.mk|omega|assumption|skip))
  (refine awp_ret ?_; simp [go_sem])
 | cons c b =>
  simp only [List.length_cons] at hnb
  (refine awp_if fun T F hT hF => ?_; simp [go_sem]; refine hF ?_; clear hT hF T F)
  refine awp_skip ?_
  refine hK1 _ ?_; clear hK1
  (refine awp_sr fun Y Yh => ?_; simp [go_sem]; ((repeat' (first|(refine ag_x ?_;simp [go_sem])|intro _|apply And.intro|(apply Yh;clear Yh Y)));all_goals first|apply Hold.mk|omega|assumption|skip))
  (refine awp_ret ?_; simp [go_sem])
set_option maxHeartbeats 16000000 in
theorem lText_spec (L : Lck) (hL : LkOk L) : PCall Tryz.prog 56 [dLk L] fun r => r = .tup [dS (if lockV L = true then textV L else []), dI (if lockV L = true then 0 else 1)] := by 
 refine pcall_of Tryz.func56 rfl rfl Tryz.ntmps56 (rs := [.tmp 2, .tmp 3]) (tys := [9, 35]) rfl rfl (by simp) ?_
 have CK := lCheck_spec L hL
 have hPS := fun i x r => @pksT_step L i x r
 have hP0 := pksT_zero L
 have hLV := @lockV_parts L
 have hLN := @lockV_needs L
 have hPL := @pksT_len L
 have hT : textV L = headT L ++ (preSum ++ (Lib.itoa (sumV (headT L) (headT L).length : Nat) ++ [10])) := rfl
 have hH : headT L = pksT L L.1.length ++ (wishH ++ (ndsT pre2 L.2.2 L.2.2.length ++ [10])) := rfl
 obtain ⟨P, N, W⟩ := L
 obtain ⟨hP, hN, hW, hP1, hN1, hW1⟩ := hL
 simp only at hP hN hW hP1 hN1 hW1 hPS hLV hLN hPL hH hT
 generalize lockV (P, N, W) = lk at *
 generalize textV (P, N, W) = tv at *
 generalize hpk : pksT (P, N, W) = pk at *
 generalize headT (P, N, W) = hd at *
 (refine awp_sr fun Y Yh => ?_; simp [go_sem]; ((repeat' (first|(refine ag_x ?_;simp [go_sem])|intro _|apply And.intro|(apply Yh;clear Yh Y)));all_goals first|apply Hold.mk|omega|assumption|skip))
 rename_i g1
 refine awp_frzbox 1 rfl rfl ?_
 simp only [go_sem]
 refine awp_seq_k fun K1 hK1 => ?_
 (refine awp_sr fun Y Yh => ?_; simp [go_sem]; ((repeat' (first|(refine ag_x ?_;simp [go_sem])|intro _|apply And.intro|(apply Yh;clear Yh Y)));all_goals first|apply Hold.mk|omega|assumption|skip))
 ((try refine CallT.toA ?_); refine callT_m (.inl ⟨rfl,rfl⟩) (by simp [go_sem]) ?_; intro args ha; simp [go_sem] at ha; subst ha; refine ⟨_, CK, ?_⟩; rintro _ rfl; simp [go_sem]; ((repeat' (first|(refine ag_x ?_;simp [go_sem])|intro _|apply And.intro|(apply Yh;clear Yh Y)));all_goals first|apply Hold.mk|omega|assumption|skip))
 (refine awp_sr fun Y Yh => ?_; simp [go_sem]; ((repeat' (first|(refine ag_x ?_;simp [go_sem])|intro _|apply And.intro|(apply Yh;clear Yh Y)));all_goals first|apply Hold.mk|omega|assumption|skip))
 cases lk with
 | false =>
  (refine awp_if fun T F hT hF => ?_; simp [go_sem]; refine hT ?_; clear hT hF T F)
  (refine awp_sr fun Y Yh => ?_; simp [go_sem]; ((repeat' (first|(refine ag_x ?_;simp [go_sem])|intro _|apply And.intro|(apply Yh;clear Yh Y)));all_goals first|apply Hold.mk|omega|assumption|skip))
  (refine awp_ret ?_; simp [go_sem])
 | true =>
  (refine awp_if fun T F hT hF => ?_; simp [go_sem]; refine hF ?_; clear hT hF T F)
  refine awp_skip ?_
  refine hK1 _ ?_; clear hK1
  obtain ⟨v1, v2, v3, v4⟩ := hLV rfl
  have hN6 := hLN rfl
  have hPL1 := hPL (fun r hr => ⟨hN6 r hr, fun x hx => (hN1 r hr).2 x hx⟩) hP1
  refine awp_bld 190 5 900000 900001 (by decide) (by decide) (by kernel_rfl) fun gb gr => ?_
  (refine awp_sr fun Y Yh => ?_; simp [go_sem]; ((repeat' (first|(refine ag_x ?_;simp [go_sem])|intro _|apply And.intro|(apply Yh;clear Yh Y)));all_goals first|apply Hold.mk|omega|assumption|skip))
  (refine callA_l [900000, 900001] (.inl ⟨rfl,rfl⟩) (by simp [go_sem]) ?_; intro args ha; simp [go_sem] at ha; subst ha; refine ⟨_, _, (ws_spec 900000 900001 gb gr [] _ (by decide) (by decide) (by decide) (by simp)), (by simp [go_sem]), ?_⟩; rintro ps r hps ⟨gr1, rfl, rfl⟩; simp [go_sem]; ((repeat' (first|(refine ag_x ?_;simp [go_sem])|intro _|apply And.intro|(apply Yh;clear Yh Y)));all_goals first|apply Hold.mk|omega|assumption|skip))
  refine awp_seq_k fun K3 hK3 => ?_
  (refine awp_sr fun Y Yh => ?_; simp [go_sem]; ((repeat' (first|(refine ag_x ?_;simp [go_sem])|intro _|apply And.intro|(apply Yh;clear Yh Y)));all_goals first|apply Hold.mk|omega|assumption|skip))
  refine awp_block ?_
  refine awp_loop (σ := Nat × Nat) (fun x => ⟨[(1, .rd [dPs P, dNs N, dPs W]), (5, .ptr 900000 gb 0), (19, dPs P), (20, dI P.length), (21, dI x.1)], [(900000, (gb, .bld 190 900001 x.2)), (900001, (x.2, .brow 5 (pk x.1)))]⟩) (fun x => x.1 ≤ P.length) (fun x => P.length - x.1) (0, gr1) ?_ ?_ ?_
  ·(refine cov_of ?_ ?_ <;> simp [go_sem, hP0, gemsH])
  ·simp
  rintro ⟨i, gr⟩ hi
  simp only at hi
  (refine awp_sr fun Y Yh => ?_; simp [go_sem]; ((repeat' (first|(refine ag_x ?_;simp [go_sem])|intro _|apply And.intro|(apply Yh;clear Yh Y)));all_goals first|apply Hold.mk|omega|assumption|skip))
  refine awp_seq_k fun K4 hK4 => ?_
  (refine awp_if fun T F hT hF => ?_; simp [go_sem]; refine BR.intro (fun h5 => hT ?_) (fun h5 => hF ?_); all_goals clear hT hF T F; try simp at h5) 
  ·refine awp_skip ?_
   refine hK4 _ ?_; clear hK4
   obtain ⟨x, hx⟩ : ∃ x, P[i]? = some x := ⟨_, List.getElem?_eq_getElem (by omega)⟩
   obtain ⟨r, hr⟩ : ∃ r, N[i]? = some r := ⟨_, List.getElem?_eq_getElem (by omega)⟩
   have hst := hPS i x r hx hr
   have hr6 := hN1 r (List.mem_of_getElem? hr)
   have hst2 := fun k y => @ndsT_step pre4 r k y
   have hst0 := ndsT_zero pre4 r
   have hpi : (pk i).length ≤ 840003245 := Nat.le_trans (hPL1 i) (Nat.le_trans (Nat.add_le_add_left (Nat.mul_le_mul_right _ (Nat.le_trans hi v1)) 5) (by decide))
   have hxl := hP1 x (List.mem_of_getElem? hx)
   have q1 := hxl.1
   have q2 := hxl.2
   have hpx : (pickL x).length ≤ 2000006 := by simp [pickL]; omega
   have hnl := ndsT_len (ind := pre4) (l := r) (by decide) hr6.2
   have hr66 := hN6 r (List.mem_of_getElem? hr)
   generalize pk i = pki at *
   refine awp_seq_k fun K6 hK6 => ?_
   refine awp_block ?_
   (refine awp_sr fun Y Yh => ?_; simp [go_sem, hx]; ((repeat' (first|(refine ag_x ?_;simp [go_sem, hx])|intro _|apply And.intro|(apply Yh;clear Yh Y)));all_goals first|apply Hold.mk|omega|assumption|skip))
   rename_i g7
   refine awp_frzbox 7 rfl rfl ?_
   simp only [go_sem]
   (refine awp_sr fun Y Yh => ?_; simp [go_sem]; ((repeat' (first|(refine ag_x ?_;simp [go_sem])|intro _|apply And.intro|(apply Yh;clear Yh Y)));all_goals first|apply Hold.mk|omega|assumption|skip))
   (refine callA_l [900000, 900001] (.inl ⟨rfl,rfl⟩) (by simp [go_sem]) ?_; intro args ha; simp [go_sem] at ha; subst ha; refine ⟨_, _, (ws_spec 900000 900001 gb gr pki _ (by decide) (by decide) (by decide) (by simp; omega)), (by simp [go_sem]), ?_⟩; rintro ps r hps ⟨gr2, rfl, rfl⟩; simp [go_sem]; ((repeat' (first|(refine ag_x ?_;simp [go_sem])|intro _|apply And.intro|(apply Yh;clear Yh Y)));all_goals first|apply Hold.mk|omega|assumption|skip))
   (refine awp_sr fun Y Yh => ?_; simp [go_sem, hr]; ((repeat' (first|(refine ag_x ?_;simp [go_sem, hr])|intro _|apply And.intro|(apply Yh;clear Yh Y)));all_goals first|apply Hold.mk|omega|assumption|skip))
   refine awp_block ?_
   generalize ndsT pre4 r = nt at *
   refine awp_loop (σ := Nat × Nat) (fun z => ⟨[(1, .rd [dPs P, dNs N, dPs W]), (5, .ptr 900000 gb 0), (19, dPs P), (20, dI P.length), (21, dI i), (39, dPs r), (40, dI r.length), (41, dI z.1)], [(900000, (gb, .bld 190 900001 z.2)), (900001, (z.2, .brow 5 (pki ++ (pickL x ++ nt z.1))))]⟩) (fun z => z.1 ≤ r.length) (fun z => r.length - z.1) (0, gr2) ?_ ?_ ?_
   ·(refine cov_of ?_ ?_ <;> simp [go_sem, hst0, pickL])
   ·simp
   rintro ⟨k, gr⟩ hk
   simp only at hk
   have hnk : (nt k).length ≤ 12000048 := Nat.le_trans (hnl k) (Nat.le_trans (Nat.mul_le_mul_right _ (Nat.le_trans hk hr66)) (by decide))
   (refine awp_sr fun Y Yh => ?_; simp [go_sem]; ((repeat' (first|(refine ag_x ?_;simp [go_sem])|intro _|apply And.intro|(apply Yh;clear Yh Y)));all_goals first|apply Hold.mk|omega|assumption|skip))
   refine awp_seq_k fun K7 hK7 => ?_
   (refine awp_if fun T F hT hF => ?_; simp [go_sem]; refine BR.intro (fun h8 => hT ?_) (fun h8 => hF ?_); all_goals clear hT hF T F; try simp at h8) 
   ·refine awp_skip ?_
    refine hK7 _ ?_; clear hK7
    obtain ⟨y, hy⟩ : ∃ y, r[k]? = some y := ⟨_, List.getElem?_eq_getElem (by omega)⟩
    have hst3 := hst2 k y hy
    have hyl := hr6.2 y (List.mem_of_getElem? hy)
    have hwl := wantL_len pre4 y
    have WS := wline_spec pre4 y (by decide) hyl
    have hp4 : pre4.length = 4 := rfl
    have q1 := hyl.1
    have q2 := hyl.2
    generalize wantL pre4 y = wy at *
    refine awp_seq_k fun K9 hK9 => ?_
    refine awp_block ?_
    (refine awp_sr fun Y Yh => ?_; simp [go_sem, hy]; ((repeat' (first|(refine ag_x ?_;simp [go_sem, hy])|intro _|apply And.intro|(apply Yh;clear Yh Y)));all_goals first|apply Hold.mk|omega|assumption|skip))
    rename_i g9
    refine awp_frzbox 9 rfl rfl ?_
    simp only [go_sem]
    (refine awp_r fun Y Yh => ?_; simp [go_sem]; ((repeat' (first|(refine ag_x ?_;simp [go_sem])|intro _|apply And.intro|(apply Yh;clear Yh Y)));all_goals first|apply Hold.mk|omega|assumption|skip))
    ((try refine CallT.toA ?_); refine callT_m (.inl ⟨rfl,rfl⟩) (by simp [go_sem]) ?_; intro args ha; simp [go_sem] at ha; subst ha; refine ⟨_, WS, ?_⟩; rintro _ rfl; simp [go_sem]; ((repeat' (first|(refine ag_x ?_;simp [go_sem])|intro _|apply And.intro|(apply Yh;clear Yh Y)));all_goals first|apply Hold.mk|omega|assumption|skip))
    (refine callA_l [900000, 900001] (.inl ⟨rfl,rfl⟩) (by simp [go_sem]) ?_; intro args ha; simp [go_sem] at ha; subst ha; refine ⟨_, _, (ws_spec 900000 900001 gb gr (pki ++ (pickL x ++ nt k)) _ (by decide) (by decide) (by decide) (by simp; omega)), (by simp [go_sem]), ?_⟩; rintro ps r hps ⟨gr3, rfl, rfl⟩; simp [go_sem]; ((repeat' (first|(refine ag_x ?_;simp [go_sem])|intro _|apply And.intro|(apply Yh;clear Yh Y)));all_goals first|apply Hold.mk|omega|assumption|skip))
    refine hK9 _ ?_; clear hK9
    (refine awp_r fun Y Yh => ?_; simp [go_sem]; ((repeat' (first|(refine ag_x ?_;simp [go_sem])|intro _|apply And.intro|(apply Yh;clear Yh Y)));all_goals first|apply Hold.mk|omega|assumption|skip))
    refine ⟨(k + 1, gr3), ?_, by simp only; omega, by simp only; omega⟩
    (refine cov_of ?_ ?_ <;> simp [go_sem, hst3])
   ·refine awp_exit ?_
    simp only [go_sem]
    refine hK6 _ ?_; clear hK6
    have : k = r.length := by omega
    subst this
    (refine awp_r fun Y Yh => ?_; simp [go_sem]; ((repeat' (first|(refine ag_x ?_;simp [go_sem])|intro _|apply And.intro|(apply Yh;clear Yh Y)));all_goals first|apply Hold.mk|omega|assumption|skip))
    refine ⟨(i + 1, gr), ?_, by simp only; omega, by simp only; omega⟩
    (refine cov_of ?_ ?_ <;> simp [go_sem, hst])
  ·refine awp_exit ?_
   simp only [go_sem]
   refine hK3 _ ?_; clear hK3
   have : i = P.length := by omega
   subst this
   have hPL2 := hPL1 P.length
   have hWl := ndsT_len (ind := pre2) (l := W) (by decide) hW1
   have hst2 := fun k y => @ndsT_step pre2 W k y
   have hst0 := ndsT_zero pre2 W
   have hW8 := needsV_len v3
   have hpn : (pk P.length).length ≤ 840003245 := Nat.le_trans hPL2 (Nat.le_trans (Nat.add_le_add_left (Nat.mul_le_mul_right _ v1) 5) (by decide))
   have hhl := congrArg List.length hH
   simp only [List.length_append] at hhl
   generalize pk P.length = pkn at *
   generalize ndsT pre2 W = nt at *
   have hw6 : wishH.length = 6 := rfl
   (refine awp_sr fun Y Yh => ?_; simp [go_sem]; ((repeat' (first|(refine ag_x ?_;simp [go_sem])|intro _|apply And.intro|(apply Yh;clear Yh Y)));all_goals first|apply Hold.mk|omega|assumption|skip))
   (refine callA_l [900000, 900001] (.inl ⟨rfl,rfl⟩) (by simp [go_sem]) ?_; intro args ha; simp [go_sem] at ha; subst ha; refine ⟨_, _, (ws_spec 900000 900001 gb gr pkn _ (by decide) (by decide) (by decide) (by simp; omega)), (by simp [go_sem]), ?_⟩; rintro ps r hps ⟨gr2, rfl, rfl⟩; simp [go_sem]; ((repeat' (first|(refine ag_x ?_;simp [go_sem])|intro _|apply And.intro|(apply Yh;clear Yh Y)));all_goals first|apply Hold.mk|omega|assumption|skip))
   refine awp_seq_k fun K10 hK10 => ?_
   (refine awp_sr fun Y Yh => ?_; simp [go_sem]; ((repeat' (first|(refine ag_x ?_;simp [go_sem])|intro _|apply And.intro|(apply Yh;clear Yh Y)));all_goals first|apply Hold.mk|omega|assumption|skip))
   refine awp_block ?_
   refine awp_loop (σ := Nat × Nat) (fun z => ⟨[(5, .ptr 900000 gb 0), (52, dPs W), (53, dI W.length), (54, dI z.1)], [(900000, (gb, .bld 190 900001 z.2)), (900001, (z.2, .brow 5 (pkn ++ (wishH ++ nt z.1))))]⟩) (fun z => z.1 ≤ W.length) (fun z => W.length - z.1) (0, gr2) ?_ ?_ ?_
   ·(refine cov_of ?_ ?_ <;> simp [go_sem, hst0, wishH])
   ·simp
   rintro ⟨k, gr⟩ hk
   simp only at hk
   have hnk : (nt k).length ≤ 16000064 := Nat.le_trans (hWl k) (Nat.le_trans (Nat.mul_le_mul_right _ (Nat.le_trans hk hW8)) (by decide))
   (refine awp_sr fun Y Yh => ?_; simp [go_sem]; ((repeat' (first|(refine ag_x ?_;simp [go_sem])|intro _|apply And.intro|(apply Yh;clear Yh Y)));all_goals first|apply Hold.mk|omega|assumption|skip))
   refine awp_seq_k fun K11 hK11 => ?_
   (refine awp_if fun T F hT hF => ?_; simp [go_sem]; refine BR.intro (fun h12 => hT ?_) (fun h12 => hF ?_); all_goals clear hT hF T F; try simp at h12)
   ·refine awp_skip ?_
    refine hK11 _ ?_; clear hK11
    obtain ⟨y, hy⟩ : ∃ y, W[k]? = some y := ⟨_, List.getElem?_eq_getElem (by omega)⟩
    have hst3 := hst2 k y hy
    have hyl := hW1 y (List.mem_of_getElem? hy)
    have hwl := wantL_len pre2 y
    have WS := wline_spec pre2 y (by decide) hyl
    have hp2 : pre2.length = 2 := rfl
    have q1 := hyl.1
    have q2 := hyl.2
    generalize wantL pre2 y = wy at *
    refine awp_seq_k fun K13 hK13 => ?_
    refine awp_block ?_
    (refine awp_sr fun Y Yh => ?_; simp [go_sem, hy]; ((repeat' (first|(refine ag_x ?_;simp [go_sem, hy])|intro _|apply And.intro|(apply Yh;clear Yh Y)));all_goals first|apply Hold.mk|omega|assumption|skip))
    rename_i g11
    refine awp_frzbox 11 rfl rfl ?_
    simp only [go_sem]
    (refine awp_r fun Y Yh => ?_; simp [go_sem]; ((repeat' (first|(refine ag_x ?_;simp [go_sem])|intro _|apply And.intro|(apply Yh;clear Yh Y)));all_goals first|apply Hold.mk|omega|assumption|skip))
    ((try refine CallT.toA ?_); refine callT_m (.inl ⟨rfl,rfl⟩) (by simp [go_sem]) ?_; intro args ha; simp [go_sem] at ha; subst ha; refine ⟨_, WS, ?_⟩; rintro _ rfl; simp [go_sem]; ((repeat' (first|(refine ag_x ?_;simp [go_sem])|intro _|apply And.intro|(apply Yh;clear Yh Y)));all_goals first|apply Hold.mk|omega|assumption|skip))
    (refine callA_l [900000, 900001] (.inl ⟨rfl,rfl⟩) (by simp [go_sem]) ?_; intro args ha; simp [go_sem] at ha; subst ha; refine ⟨_, _, (ws_spec 900000 900001 gb gr (pkn ++ (wishH ++ nt k)) _ (by decide) (by decide) (by decide) (by simp; omega)), (by simp [go_sem]), ?_⟩; rintro ps r hps ⟨gr3, rfl, rfl⟩; simp [go_sem]; ((repeat' (first|(refine ag_x ?_;simp [go_sem])|intro _|apply And.intro|(apply Yh;clear Yh Y)));all_goals first|apply Hold.mk|omega|assumption|skip))
    refine hK13 _ ?_; clear hK13
    (refine awp_r fun Y Yh => ?_; simp [go_sem]; ((repeat' (first|(refine ag_x ?_;simp [go_sem])|intro _|apply And.intro|(apply Yh;clear Yh Y)));all_goals first|apply Hold.mk|omega|assumption|skip))
    refine ⟨(k + 1, gr3), ?_, by simp only; omega, by simp only; omega⟩
    (refine cov_of ?_ ?_ <;> simp [go_sem, hst3])
   ·refine awp_exit ?_
    simp only [go_sem]
    refine hK10 _ ?_; clear hK10
    have : k = W.length := by omega
    subst this
    have e : pkn ++ (wishH ++ (nt W.length ++ [10])) = hd := hH.symm
    have hdl : hd.length ≤ 1000000000 := by
     rw [hhl]
     have e6 : ([10] : Bs).length = 1 := rfl
     rw [hw6, e6]
     omega
    have hdn : hd ≠ [] := by rw [← e]; simp [wishH]
    have SU := sum_spec hd hdl
    have hsl := sumV_lt hd hd.length
    have IT := itoa_spec (sumV hd hd.length : Nat) (by omega) (by omega)
    have hil := Lib.itoa_length_le (sumV hd hd.length : Nat) (by omega) (by omega)
    generalize sumV hd hd.length = sm at *
    (refine awp_sr fun Y Yh => ?_; simp [go_sem]; ((repeat' (first|(refine ag_x ?_;simp [go_sem])|intro _|apply And.intro|(apply Yh;clear Yh Y)));all_goals first|apply Hold.mk|omega|assumption|skip))
    (refine callA_l [900000, 900001] (.inl ⟨rfl,rfl⟩) (by simp [go_sem]) ?_; intro args ha; simp [go_sem] at ha; subst ha; refine ⟨_, _, (ws_spec 900000 900001 gb gr (pkn ++ (wishH ++ nt W.length)) _ (by decide) (by decide) (by decide) (by simp; omega)), (by simp [go_sem]), ?_⟩; rintro ps r hps ⟨gr4, rfl, rfl⟩; simp [go_sem]; ((repeat' (first|(refine ag_x ?_;simp [go_sem])|intro _|apply And.intro|(apply Yh;clear Yh Y)));all_goals first|apply Hold.mk|omega|assumption|skip))
    refine awp_cov (S' := ⟨[(5, .ptr 900000 gb 0)], [(900000, (gb, .bld 190 900001 gr4)), (900001, (gr4, .brow 5 hd))]⟩) (by rw [← e]; (refine cov_of ?_ ?_ <;> simp [go_sem])) ?_
    clear e hH
    (refine awp_sr fun Y Yh => ?_; simp [go_sem]; ((repeat' (first|(refine ag_x ?_;simp [go_sem])|intro _|apply And.intro|(apply Yh;clear Yh Y)));all_goals first|apply Hold.mk|omega|assumption|skip))
    (refine callA_l [900000, 900001] (.inl ⟨rfl,rfl⟩) (by simp [go_sem]) ?_; intro args ha; simp [go_sem] at ha; subst ha; refine ⟨_, _, (str_spec 900000 900001 gb gr4 hd (by decide) (by decide) (by decide) hdn), (by simp [go_sem]), ?_⟩; rintro ps r hps ⟨gr5, rfl, rfl⟩; simp [go_sem]; ((repeat' (first|(refine ag_x ?_;simp [go_sem])|intro _|apply And.intro|(apply Yh;clear Yh Y)));all_goals first|apply Hold.mk|omega|assumption|skip))
    (refine callA_l [900000, 900001] (.inl ⟨rfl,rfl⟩) (by simp [go_sem]) ?_; intro args ha; simp [go_sem] at ha; subst ha; refine ⟨_, _, (str_spec 900000 900001 gb gr5 hd (by decide) (by decide) (by decide) hdn), (by simp [go_sem]), ?_⟩; rintro ps r hps ⟨gr6, rfl, rfl⟩; simp [go_sem]; ((repeat' (first|(refine ag_x ?_;simp [go_sem])|intro _|apply And.intro|(apply Yh;clear Yh Y)));all_goals first|apply Hold.mk|omega|assumption|skip))
    ((try refine CallT.toA ?_); refine callT_m (.inl ⟨rfl,rfl⟩) (by simp [go_sem]) ?_; intro args ha; simp [go_sem] at ha; subst ha; refine ⟨_, SU, ?_⟩; rintro _ rfl; simp [go_sem]; ((repeat' (first|(refine ag_x ?_;simp [go_sem])|intro _|apply And.intro|(apply Yh;clear Yh Y)));all_goals first|apply Hold.mk|omega|assumption|skip))
    ((try refine CallT.toA ?_); refine callT_m (.inl ⟨rfl,rfl⟩) (by simp [go_sem]) ?_; intro args ha; simp [go_sem] at ha; subst ha; refine ⟨_, IT, ?_⟩; rintro _ rfl; simp [go_sem]; ((repeat' (first|(refine ag_x ?_;simp [go_sem])|intro _|apply And.intro|(apply Yh;clear Yh Y)));all_goals first|apply Hold.mk|omega|assumption|skip))
    (refine awp_ret ?_; simp [go_sem, hT, preSum])
end Go.Proofs.YteekfnhhlcmcgaaGreatDoor
