/- Part of a proof: see the last text. -/
import Derived.Test.YteekfnhhlcmcgaaGreatDoorG05
import Derived.Test.YteekfnhhlcmcgaaGreatDoorG12
import Derived.Lib.SlicesDelete
import Derived.Deep.RegionLaw
import Derived.Lib.SliceRun
import Derived.Lib.OwnBridge
import Derived.Shelf.RegionOpenPlain
import Derived.WalkKit
import Derived.Deep.LoopGhost
import Derived.Lib.Walk
import Derived.Sort.WalkB12
import Derived.Test.YteekfnhhlcmcgaaGreatDoorG11
set_option linter.unusedVariables false
set_option linter.unusedSimpArgs false
namespace Go.Proofs.YteekfnhhlcmcgaaGreatDoor
open Go.Eng Go.Wh Go.Ver
set_option maxRecDepth 20000
attribute [local irreducible] AG CallA CallT AWp PCall ACall AgC
theorem run_clear2 {P : Program} (w : World) (t e ty : TypeId) (z a c : Value) (ht : P.underlying t = some (.slice e)) (hv : ∀ w, (zeroValue e).run P w = .ok z w) (hz : z.cells = #[a, c]) (h1 : a.oneCell' = true) (h2 : c.oneCell' = true) (b o cap : Nat)
  (hc : ∀ j, j < 2 → (w.cell? ⟨b, o + j, none⟩).isSome = true) (hf : ∀ j, j < 2 → w.frozen? ⟨b, o + j, none⟩ = false) :
  (Builtin.clear_ #[t] ty #[.slice (some ⟨b, o, none⟩) 1 cap]).run P w = .ok (.tuple #[]) (w.setCells b o [a, c]) := by
 have hzc : (Builtin.zeroCells z.cells 1).toList = [a, c] := by
  rw [hz]
  simp [Builtin.zeroCells]
  rfl
 have hst := run_storeCells_cells (P := P) b o [a, c] 0 w (by simpa using hc) (by simpa using hf) (by intro v hv'; simp at hv'; rcases hv' with rfl | rfl <;> assumption)
 simp only [Nat.add_zero] at hst
 simp [Builtin.clear_, run_underlying ht, hv, hzc, hst]
open Go.Shelf Go.RowKit Go.Lib Go.Sort
theorem delete_arr2 (d : Array Value) (n i : Nat) (a c : Value) (hd : d.size = n * 2) (hi : i < n) :
  lay (lay d (i * 2) (d.toList.drop ((i + 1) * 2))) ((n - 1) * 2) [a, c] = (d.toList.take (i * 2) ++ d.toList.drop ((i + 1) * 2) ++ [a, c]).toArray := by
 apply Array.ext_getElem?
 intro t
 have l1 : (d.toList.take (i * 2)).length = i * 2 := by simp; omega
 have l2 : (d.toList.drop ((i + 1) * 2)).length = d.size - (i + 1) * 2 := by simp
 rw [lay_get? _ _ _ _ (by rw [lay_size]; simp; omega), lay_get? _ _ _ _ (by rw [l2]; omega), show (d.toList.take (i * 2) ++ d.toList.drop ((i + 1) * 2) ++ [a, c]).toArray[t]? = (d.toList.take (i * 2) ++ d.toList.drop ((i + 1) * 2) ++ [a, c])[t]? from List.getElem?_toArray]
 simp only [List.length_cons, List.length_nil, l2]
 by_cases c1 : t < i * 2
 ·rw [if_neg (by omega), if_neg (by omega), List.getElem?_append_left (by simp; omega), List.getElem?_append_left (by omega), List.getElem?_take, if_pos c1, Array.getElem?_toList]
 ·by_cases c2 : t < (n - 1) * 2
  ·rw [if_neg (by omega), if_pos (by omega), List.getElem?_append_left (by simp; omega), List.getElem?_append_right (by omega), l1]
  ·rw [List.getElem?_append_right (by simp; omega)]
   by_cases c3 : t < n * 2
   ·rw [if_pos (by omega)]
    congr 1
    simp
    omega
   ·rw [if_neg (by omega), if_neg (by omega)]
    rw [Array.getElem?_eq_none (by omega), List.getElem?_eq_none]
    simp
    omega
set_option maxHeartbeats 4000000 in
set_option maxRecDepth 1000000 in
theorem deletep_raw (blk cap n i j : Nat) (d : Array Value) (w : World) (hd : d.size = n * 2) (hH : Holds id w blk 0 d) (hcap : n ≤ cap) (hm : cap ≤ 9223372036854775807) (hone : ∀ u ∈ d.toList, u.oneCell' = true) (hi : i < n) (hj : i < j) (hj2 : j ≤ i + 1) (hj3 : j ≤ n) :
  Calls Tryz.prog 87 #[.slice (some ⟨blk, 0, none⟩) n cap, .int .i64 i, .int .i64 j] w fun e w' => e = .returned (.slice (some ⟨blk, 0, none⟩) (n - 1) cap) ∧ ∃ q, w' = putRow id (Sort.ahead w q) blk 0 (d.toList.take (i * 2) ++ d.toList.drop (j * 2) ++ [encStr [], encStr []]).toArray := by
 
 obtain ⟨news, hnews⟩ : ∃ news, news = d.toList.drop (j * 2) := ⟨_, rfl⟩
 have hlen : news.length = (n - j) * 2 := by rw [hnews]; simp; omega
 have hget : ∀ t, t < (n - j) * 2 → news[t]? = some d[j * 2 + t]! := by
  intro t ht
  rw [hnews, List.getElem?_drop, Array.getElem?_toList, getElem!_pos d (j * 2 + t) (by omega), Array.getElem?_eq_getElem (by omega)]
 obtain ⟨A, hA, hsrc⟩ : ∃ A : Addr, (if cap = j then some (⟨blk, 0, none⟩ : Addr) else some ⟨blk, j * 2, none⟩) = some A ∧ Hid (∀ t u, news[t]? = some u → w.drew.cell? (A.add t) = some u) := by
  by_cases h : cap = j
  ·refine ⟨⟨blk, 0, none⟩, by simp [h], fun t u hu => ?_⟩
   have h0 : news.length = 0 := by rw [hlen]; omega
   rw [List.length_eq_zero_iff.1 h0] at hu
   simp at hu
  ·refine ⟨⟨blk, j * 2, none⟩, by simp [h], fun t u hu => ?_⟩
   have ht : t < (n - j) * 2 := by
    have := (List.getElem?_eq_some_iff.1 hu).1
    rwa [hlen] at this
   rw [hget t ht] at hu
   rw [Addr.add_lit]
   have := (hH (j * 2 + t) (by omega)).1
   rw [Nat.zero_add] at this
   exact this.trans hu
 have s1 : Hid (news.length = (n - j) * 2) := hlen
 have s2 : Hid (∀ u ∈ news, u.oneCell' = true) := by
  intro u hu
  rw [hnews] at hu
  exact hone u (List.mem_of_mem_drop hu)
 have s3 : Hid (∀ t, t < news.length → (w.drew.cell? ⟨blk, 0 + i * 2 + t, none⟩).isSome = true ∧ w.drew.frozen? ⟨blk, 0 + i * 2 + t, none⟩ = false) := by
  intro t ht
  rw [hlen] at ht
  have := hH (i * 2 + t) (by omega)
  rw [Nat.zero_add] at this
  rw [Nat.zero_add]
  exact ⟨by show (w.cell? _).isSome = true; rw [this.1]; rfl, this.2⟩
 obtain ⟨W1, hW1⟩ : ∃ W1, W1 = w.drew.setCells blk (0 + i * 2) news := ⟨_, rfl⟩
 have hW1' : W1 = putRow id (Sort.ahead w 1) blk 0 (lay d (i * 2) (d.toList.drop (j * 2))) := by
  have := putRow_setCells id (Sort.ahead w 1) blk 0 (d.toList.drop (j * 2)) d (i * 2) (by simp; omega)
  rw [putRow_self id (Sort.ahead w 1) blk 0 d (holds_ahead id w 1 blk 0 d hH), List.map_id] at this
  rw [hW1, hnews, ← this]
  rfl
 have hH1 : Holds id W1 blk 0 (lay d (i * 2) (d.toList.drop (j * 2))) := by rw [hW1']; exact holds_putRow id _ blk 0 d _ (holds_ahead id w 1 blk 0 d hH) (lay_size _ _ _)
 have hcl : ∀ ty, (Builtin.clear_ #[34] ty #[.slice (some ⟨blk, (i + (n - j)) * 2, none⟩) (n - (i + (n - j))) (cap - (i + (n - j)))]).run Tryz.prog W1 = .ok (.tuple #[]) (W1.setCells blk ((n - 1) * 2) [encStr [], encStr []]) := fun ty => by
  have e1 : n - (i + (n - j)) = 1 := by omega
  have e2 : i + (n - j) = n - 1 := by omega
  rw [e1, e2]
  exact run_clear2 W1 34 41 ty _ (encStr []) (encStr []) Tryz.underlying34 Tryz.zeroValue41 rfl rfl rfl blk ((n - 1) * 2) (cap - (n - 1)) (fun t ht => by have := (hH1 ((n - 1) * 2 + t) (by rw [lay_size]; omega)).1; rw [Nat.zero_add] at this; rw [this]; rfl) (fun t ht => by have := (hH1 ((n - 1) * 2 + t) (by rw [lay_size]; omega)).2; rw [Nat.zero_add] at this; exact this)
 have X : Aside (W1 = putRow id (Sort.ahead w 1) blk 0 (lay d (i * 2) (d.toList.drop (j * 2)))) := hW1'
 have hW : Hid (W1 = w.drew.setCells blk (0 + i * 2) news) := hW1
 have hic : i ≤ cap := by omega
 have hjc : j ≤ cap := by omega
 clear hW1 hW1' hH1 hH hget hnews hlen
 obtain ⟨i0, hi0, hi1⟩ := Option.map_eq_some_iff.1 (show (Tryz.prog.info? 41).map (·.size) = some 2 by kernel_rfl)
 have mixed : Tryz.prog.follows Departure.mixedOrders = true := by kernel_rfl
 go_enter Tryz.func87, Tryz.ntmps87
 go_wp2_with fail
 go_region_law_o (refine step_append_room rfl (.tmp 22) (.tmp 25) 34 rfl 41 i0 2 Tryz.underlying34 hi0 hi1 blk 0 i cap (by simp [Act.eval, Act.put]) A (n - j) (cap - j) news (by simp [Act.eval, Act.put]) s1.out hsrc.out s2.out (by omega) s3.out ?_; rw [← hW.out])
 go_wp2
 go_ret
 refine ⟨by rw [show n - 1 = i + (n - j) by omega]; rfl, 1, ?_⟩
 have ej : j * 2 = (i + 1) * 2 := by omega
 have e3 := putRow_setCells id (Sort.ahead w 1) blk 0 [encStr [], encStr []] (lay d (i * 2) (d.toList.drop (j * 2))) ((n - 1) * 2) (by rw [lay_size]; simp; omega)
 rw [Nat.zero_add, List.map_id, ← X.out] at e3
 rw [e3, ej, delete_arr2 d n i (encStr []) (encStr []) hd hi]
theorem owns_delete {e : TypeId} {w : World} {v : Value} {xs : List (List Value)} {i : Nat} (hx : ∀ x ∈ xs, x.length = 2 ∧ ∀ u ∈ x, u.oneCell' = true) (ho : w.ownsRow 0 e 2 v xs.length xs.flatten) (hi : i < xs.length) (f : FuncId)
  (raw : ∀ (blk cap n i j : Nat) (d : Array Value) (w : World) (hd : d.size = n * 2) (hH : Holds id w blk 0 d) (hcap : n ≤ cap) (hm : cap ≤ 9223372036854775807) (hone : ∀ u ∈ d.toList, u.oneCell' = true) (hi : i < n) (hj : i < j) (hj2 : j ≤ i + 1) (hj3 : j ≤ n),
   Calls Tryz.prog f #[.slice (some ⟨blk, 0, none⟩) n cap, .int .i64 i, .int .i64 j] w fun e w' => e = .returned (.slice (some ⟨blk, 0, none⟩) (n - 1) cap) ∧ ∃ q, w' = putRow id (Sort.ahead w q) blk 0 (d.toList.take (i * 2) ++ d.toList.drop (j * 2) ++ [encStr [], encStr []]).toArray) :
  Calls Tryz.prog f (v :: [.int .i64 i, .int .i64 ((i + 1 : Nat) : Int)]).toArray w fun en w' => ∃ v', en = .returned v' ∧ v'.oneCell' = true ∧ v'.ownBlock = v.ownBlock ∧ w'.ownsRow 0 e 2 v' (xs.take i ++ xs.drop (i + 1)).length (xs.take i ++ xs.drop (i + 1)).flatten ∧ RowFrm w w' v := by
 have hfl : xs.flatten.length = xs.length * 2 := flat_len fun x h => (hx x h).1
 rcases ho.2 with ⟨_, h0⟩ | ⟨g, cap, cur, rfl, hb, hg, hn, hm, hs, ht⟩
 ·omega
 have hH : Holds id w g 0 xs.flatten.toArray := fun j hj => by
  have hj' : j < xs.length * 2 := by simpa [hfl] using hj
  refine ⟨?_, by simp [World.frozen?, hg]⟩
  have e1 : (cur.toList.take (xs.length * 2))[j]? = xs.flatten[j]? := by rw [ht]
  rw [List.getElem?_take, if_pos hj', Array.getElem?_toList, List.getElem?_eq_getElem (by omega)] at e1
  simp only [World.cell?, hg, Nat.zero_add]
  simp only [Option.isSome_none, Bool.false_eq_true, if_false]
  rw [e1]
  have hjl : j < xs.flatten.length := by omega
  simp [getElem!_pos, hjl, List.getElem?_eq_getElem hjl]
 have hml : maxLen ≤ 9223372036854775807 := by decide
 refine (raw g cap xs.length i (i + 1) xs.flatten.toArray w (by simpa using hfl) hH hn (by omega) (fun u hu => by
  obtain ⟨x, hx1, hx2⟩ := List.mem_flatten.1 (by simpa using hu)
  exact (hx x hx1).2 u hx2) hi (by omega) (by omega) (by omega)).mono ?_
 rintro en w' ⟨rfl, q, rfl⟩
 have hlen : (xs.take i ++ xs.drop (i + 1)).length = xs.length - 1 := by simp; omega
 have hx1 : ∀ x ∈ xs, x.length = 2 := fun x h => (hx x h).1
 have htk : (xs.take i).flatten = xs.flatten.take (i * 2) := by
  have := flat_len (k := 2) (xs := xs.take i) fun x h => hx1 x (List.mem_of_mem_take h)
  have e : xs.flatten = (xs.take i).flatten ++ (xs.drop i).flatten := by rw [← List.flatten_append, List.take_append_drop]
  rw [e, List.take_left' (by rw [this, List.length_take]; omega)]
 have hdr : (xs.drop (i + 1)).flatten = xs.flatten.drop ((i + 1) * 2) := by
  have := flat_len (k := 2) (xs := xs.take (i + 1)) fun x h => hx1 x (List.mem_of_mem_take h)
  have e : xs.flatten = (xs.take (i + 1)).flatten ++ (xs.drop (i + 1)).flatten := by rw [← List.flatten_append, List.take_append_drop]
  rw [e, List.drop_left' (by rw [this, List.length_take]; omega)]
 generalize hnew : (xs.take i ++ xs.drop (i + 1)).flatten = new
 have hnl : new.length = (xs.length - 1) * 2 := by
  rw [← hnew, ← hlen]
  refine flat_len fun x h => hx1 x ?_
  rcases List.mem_append.1 h with h | h
  ·exact List.mem_of_mem_take h
  ·exact List.mem_of_mem_drop h
 have hd : (xs.flatten.toArray.toList.take (i * 2) ++ xs.flatten.toArray.toList.drop ((i + 1) * 2) ++ [encStr [], encStr []]) = new ++ [encStr [], encStr []] := by
  rw [← hnew, List.flatten_append, htk, hdr]
 rw [hd, hlen]
 refine ⟨_, rfl, rfl, rfl, ⟨hnl, .inr ⟨g, cap, putCells id 0 (new ++ [encStr [], encStr []]).toArray cur, rfl, hb, ?_, by omega, hm, by simpa [putCells] using hs, ?_⟩⟩, ⟨rfl, rfl, rfl, by simp [putRow, mapBlock, Sort.ahead], fun k hk hne => ?_⟩⟩
 ·simp [putRow, mapBlock, Sort.ahead, Array.getElem?_modify, hg, onCells]
 ·apply List.ext_getElem?
  intro j
  rw [List.getElem?_take, Array.getElem?_toList]
  by_cases hj : j < (xs.length - 1) * 2
  ·have hjc : j < cur.size := by rw [hs]; omega
   simp only [if_pos hj, putCells, Array.getElem?_mapIdx, Array.getElem?_eq_getElem hjc, Option.map_some]
   rw [if_pos (by simp; omega), List.getElem?_eq_getElem (by omega)]
   simp [getElem!_pos, show j < new.length by omega, show j < new.length + 2 by omega]
  ·rw [if_neg hj, List.getElem?_eq_none (by omega)]
 ·have : g ≠ k := fun q => hne (by simp [Value.ownBlock, q])
  simp [putRow, mapBlock, Sort.ahead, Array.getElem?_modify, this]
end Go.Proofs.YteekfnhhlcmcgaaGreatDoor
namespace Go.Proofs.YteekfnhhlcmcgaaGreatDoor
open Go.Eng Go.Wh Go.Ver Go.Lk
set_option maxRecDepth 20000
attribute [local irreducible] AG CallA CallT AWp PCall ACall AgC
def eP (x : Prs) : List Value := [encStr x.1, encStr x.2]
theorem mapCP (l : List Prs) : l.map cP = (l.map eP).map fun x => x.map .v := by simp [eP, encStr]
theorem eP_ok (l : List Prs) : ∀ y ∈ l.map eP, y.length = 2 ∧ ∀ u ∈ y, u.oneCell' = true := by
 intro y hy
 obtain ⟨x, _, rfl⟩ := List.mem_map.1 hy
 refine ⟨rfl, fun u hu => ?_⟩
 simp only [eP, List.mem_cons, List.mem_nil_iff, or_false] at hu
 rcases hu with rfl | rfl <;> rfl
theorem deletep_spec (nr gr : Nat) (l : List Prs) (i : Nat) (hi : i < l.length) (hn : 900000 ≤ nr) :
  ACall Tryz.prog 87 [.own nr gr, dI i, dI ((i : Int) + 1)] [(nr, (gr, .row 41 2 (l.map cP)))] [nr] fun ps r => ∃ g', ps = [(g', .row 41 2 ((lessN l i).map cP))] ∧ r = .own nr g' := by 
 have h := acall_cutk (P := Tryz.prog) (f := 87) (T := 41) (nr := nr) (gr := gr) (xs := l.map eP) (ys := (lessN l i).map eP) (vs := [.int .i64 i, .int .i64 ((i + 1 : Nat) : Int)]) ⟨_, Tryz.func87, by decide +kernel, rfl⟩ hn (by decide) (fun x hx => (eP_ok l x hx).1) (eP_ok _) (fun v w _ ho => by
  have := owns_delete (eP_ok l) ho (by simpa using hi) 87 deletep_raw
  simpa [lessN] using this)
 rw [← mapCP, ← mapCP] at h
 have e : ((i + 1 : Nat) : Int) = (i : Int) + 1 := by omega
 rw [e] at h
 exact h
theorem pclone_own (nm : Nat) (l : List Prs) (hl : l.length ≤ 1000000) (h9 : 900000 ≤ nm) : ACall Tryz.prog 79 [dPs l] [] [nm] fun ps r => ∃ g, ps = [(g, .row 41 2 (l.map cP))] ∧ r = .own nm g := by 
 refine acall_of Tryz.func79 rfl rfl Tryz.ntmps79 (rs := [.tmp 2]) (tys := [34]) rfl rfl (by simp) (by simp) ?_
 cases l with
 | nil =>
  (refine awp_sr fun Y Yh=>?_;simp[go_sem];((repeat' (first|intro _|apply And.intro|(apply Yh;clear Yh Y)));all_goals first|apply Hold.mk|omega|assumption|skip))
  refine awp_seq_k fun K1 hK1 => ?_
  (refine awp_sr fun Y Yh=>?_;simp[go_sem];((repeat' (first|intro _|apply And.intro|(apply Yh;clear Yh Y)));all_goals first|apply Hold.mk|omega|assumption|skip))
  ·(refine awp_if fun T F hT hF=>?_;simp[go_sem];refine hF ?_;clear hT hF T F)
   refine awp_skip ?_
   refine hK1 _ ?_; clear hK1
   (refine awp_sr fun Y Yh=>?_;simp[go_sem];((repeat' (first|intro _|apply And.intro|(apply Yh;clear Yh Y)));all_goals first|apply Hold.mk|omega|assumption|skip))
   refine awp_renrow 2 nm rfl rfl (fun _ => h9) fun g => ?_
   simp only [go_sem]
   refine awp_ret ?_
   simp [go_sem]
  ·(refine awp_if fun T F hT hF=>?_;simp[go_sem];refine hT ?_;clear hT hF T F)
   (refine awp_sr fun Y Yh=>?_;simp[go_sem];((repeat' (first|intro _|apply And.intro|(apply Yh;clear Yh Y)));all_goals first|apply Hold.mk|omega|assumption|skip))
   refine awp_nilslot 2 nm 41 2 rfl fun g => ?_
   simp only [go_sem]
   refine awp_ret ?_
   simp [go_sem]
 | cons x r =>
  simp only [List.length_cons] at hl
  (refine awp_sr fun Y Yh=>?_;simp[go_sem];((repeat' (first|intro _|apply And.intro|(apply Yh;clear Yh Y)));all_goals first|apply Hold.mk|omega|assumption|skip))
  refine awp_seq_k fun K1 hK1 => ?_
  (refine awp_sr fun Y Yh=>?_;simp[go_sem];((repeat' (first|intro _|apply And.intro|(apply Yh;clear Yh Y)));all_goals first|apply Hold.mk|omega|assumption|skip))
  refine awp_if fun T F hT hF => ?_
  simp [go_sem]
  refine hF ?_
  refine awp_skip ?_
  refine hK1 _ ?_; clear hK1
  (refine awp_sr fun Y Yh=>?_;simp[go_sem];((repeat' (first|intro _|apply And.intro|(apply Yh;clear Yh Y)));all_goals first|apply Hold.mk|omega|assumption|skip))
  refine awp_renrow 2 nm rfl rfl (fun _ => h9) fun g => ?_
  simp only [go_sem]
  refine awp_ret ?_
  simp [go_sem]
end Go.Proofs.YteekfnhhlcmcgaaGreatDoor
set_option maxRecDepth 20000
namespace Go.Lk
open Go.Lib Go.Wh Go.Ver
def nextC (s : Src) (left : List Prs) (p : Prs) : Bool := !((fndP s p).2.any fun n => decide (n.1 ≠ p.1) && left.any fun q => decide (q.1 = n.1))
theorem nextC_eq {s : Src} {left : List Prs} (h : NumOk left) (p : Prs) : nextC s left p = nextO s left p := by
 unfold nextC nextO
 rw [Bool.eq_iff_iff]
 simp only [Bool.not_eq_true', List.any_eq_false, List.all_eq_true, Bool.and_eq_true, not_and, Bool.or_eq_true, decide_eq_true_eq]
 refine forall_congr' fun n => imp_congr_right fun hn => ?_
 rcases pkd_idx h n.1 with ⟨q1, q2⟩ | ⟨x, q1, q2, q3, q4, q5⟩
 ·simp [q1, q2]
 ·rw [q1, q3]
  simp only [q4, or_false, Bool.not_eq_true]
  by_cases e : n.1 = p.1 <;> simp [e]
end Go.Lk
namespace Go.Proofs.YteekfnhhlcmcgaaGreatDoor
open Go.Eng Go.Wh Go.Ver Go.Lk
set_option maxRecDepth 20000
attribute [local irreducible] AG CallA CallT AWp PCall ACall AgC
set_option maxHeartbeats 8000000 in
theorem order3_spec (p n : Prs) : PCall Tryz.prog 86 [dP p, .rd [dS n.1, dS n.2]] fun r => r = dB (decide (p.1 = n.1)) := by 
 refine pcall_of Tryz.func86 rfl rfl Tryz.ntmps86 (rs := [.tmp 3]) (tys := [4]) rfl rfl (by simp) ?_
 (refine awp_sr fun Y Yh=>?_;simp[go_sem];((repeat' (first|intro _|apply And.intro|(apply Yh;clear Yh Y)));all_goals first|apply Hold.mk|omega|assumption|skip))
 (refine awp_sr fun Y Yh=>?_;simp[go_sem];((repeat' (first|intro _|apply And.intro|(apply Yh;clear Yh Y)));all_goals first|apply Hold.mk|omega|assumption|skip))
 (refine awp_ret ?_;simp[go_sem])
 by_cases h : p.1 = n.1 <;> simp [h]
set_option maxHeartbeats 8000000 in
theorem order2_spec (n p : Prs) (left : List Prs) (hl : left.length ≤ 1000000) : PCall Tryz.prog 84 [dP n, .rd [dS p.1, dS p.2], .rd [dPs left]] fun r => r = dB (decide (n.1 ≠ p.1) && left.any fun q => decide (q.1 = n.1)) := by 
 refine pcall_of Tryz.func84 rfl rfl Tryz.ntmps84 (rs := [.tmp 4]) (tys := [4]) rfl rfl (by simp) ?_
 have AN := anyP_spec left 86 [.rd [dS n.1, dS n.2]] (fun q => decide (q.1 = n.1)) (fun q _ => order3_spec q n) hl
 generalize left.any (fun q => decide (q.1 = n.1)) = b at *
 (refine awp_sr fun Y Yh=>?_;simp[go_sem];((repeat' (first|intro _|apply And.intro|(apply Yh;clear Yh Y)));all_goals first|apply Hold.mk|omega|assumption|skip))
 refine awp_frzbox 3 rfl rfl ?_
 simp only [go_sem]
 by_cases h : n.1 = p.1
 ·(refine awp_sr fun Y Yh=>?_;simp[go_sem, h];((repeat' (first|(refine ag_false ?_ ?_ ?_;(focus (simp[go_sem, undef, h];done));(focus (simp[go_sem];done));simp[go_sem, h])|(refine ag_true ?_ ?_;(focus (simp[go_sem, undef, h];done));simp[go_sem, h])|(refine ag_x ?_;simp[go_sem, undef, h])|intro _|apply And.intro|(apply Yh;clear Yh Y)));all_goals first|apply Hold.mk|omega|assumption|skip))
  (refine awp_ret ?_;simp[go_sem, h])
 ·(refine awp_sr fun Y Yh=>?_;simp[go_sem, h];((repeat' (first|(refine ag_false ?_ ?_ ?_;(focus (simp[go_sem, undef, h];done));(focus (simp[go_sem];done));simp[go_sem, h])|(refine ag_true ?_ ?_;(focus (simp[go_sem, undef, h];done));simp[go_sem, h])|(refine ag_x ?_;simp[go_sem, undef, h])|intro _|apply And.intro|(apply Yh;clear Yh Y)));all_goals first|apply Hold.mk|omega|assumption|skip))
  ((try refine CallT.toA ?_);refine callT_m (.inl ⟨rfl,rfl⟩) (by simp[go_sem]) ?_;intro args ha;simp[go_sem] at ha;subst ha;refine ⟨_, AN, ?_⟩;rintro _ rfl;simp[go_sem, h];((repeat' (first|(refine ag_false ?_ ?_ ?_;(focus (simp[go_sem, undef, h];done));(focus (simp[go_sem];done));simp[go_sem, h])|(refine ag_true ?_ ?_;(focus (simp[go_sem, undef, h];done));simp[go_sem, h])|(refine ag_x ?_;simp[go_sem, undef, h])|intro _|apply And.intro|(apply Yh;clear Yh Y)));all_goals first|apply Hold.mk|omega|assumption|skip))
  (refine awp_ret ?_;simp[go_sem, h])
set_option maxHeartbeats 8000000 in
theorem order1_spec (s : Src) (p : Prs) (left : List Prs) (hsu : suV s = true) (hl : left.length ≤ 1000000) : PCall Tryz.prog 81 [dP p, .rd [dGms s], .rd [dPs left]] fun r => r = dB (nextC s left p) := by 
 refine pcall_of Tryz.func81 rfl rfl Tryz.ntmps81 (rs := [.tmp 4]) (tys := [4]) rfl rfl (by simp) ?_
 have OF := sof_spec s p hsu
 have hvl := fndP_len hsu p
 unfold nextC
 generalize fndP s p = v at *
 generalize (fndV s p).isSome = o at *
 have AN := anyN_spec v.2 84 [.rd [dS p.1, dS p.2], .rd [dPs left]] (fun n => decide (n.1 ≠ p.1) && left.any fun q => decide (q.1 = n.1)) (fun n _ => order2_spec n p left hl) (by omega)
 generalize (v.2.any fun n => decide (n.1 ≠ p.1) && left.any fun q => decide (q.1 = n.1)) = b at *
 (refine awp_sr fun Y Yh=>?_;simp[go_sem];((repeat' (first|intro _|apply And.intro|(apply Yh;clear Yh Y)));all_goals first|apply Hold.mk|omega|assumption|skip))
 (refine awp_sr fun Y Yh=>?_;simp[go_sem];((repeat' (first|intro _|apply And.intro|(apply Yh;clear Yh Y)));all_goals first|apply Hold.mk|omega|assumption|skip))
 ((try refine CallT.toA ?_);refine callT_m (.inl ⟨rfl,rfl⟩) (by simp[go_sem]) ?_;intro args ha;simp[go_sem] at ha;subst ha;refine ⟨_, OF, ?_⟩;rintro _ rfl;simp[go_sem];((repeat' (first|intro _|apply And.intro|(apply Yh;clear Yh Y)));all_goals first|apply Hold.mk|omega|assumption|skip))
 (refine awp_sr fun Y Yh=>?_;simp[go_sem];((repeat' (first|intro _|apply And.intro|(apply Yh;clear Yh Y)));all_goals first|apply Hold.mk|omega|assumption|skip))
 ((try refine CallT.toA ?_);refine callT_f (.inl ⟨rfl,rfl⟩) ?_;intro args ha;simp[go_sem] at ha;subst ha;refine ⟨_, AN, ?_⟩;rintro _ rfl;refine ⟨rfl, ?_⟩;simp[go_sem];((repeat' (first|intro _|apply And.intro|(apply Yh;clear Yh Y)));all_goals first|apply Hold.mk|omega|assumption|skip))
 (refine awp_ret ?_;simp[go_sem])
theorem fIx_max (p : Prs → Bool) (l : List Prs) : max (fIx p l) 0 = (((l.findIdx? p).getD 0 : Nat) : Int) := by
 cases h : l.findIdx? p with
 | none =>
  have h1 : l.any p = false := by
   rw [List.any_eq_false]
   exact fun x hx => by simpa using List.findIdx?_eq_none_iff.1 h x hx
  rw [fIx_none h1]
  rfl
 | some i =>
  obtain ⟨h1, h2, h3⟩ := List.findIdx?_eq_some_iff_getElem.1 h
  have ha : l.any p = true := List.any_eq_true.2 ⟨_, List.getElem_mem h1, h2⟩
  have he : l.findIdx p = i := by
   have := List.findIdx?_eq_some_iff_findIdx_eq.1 h
   exact this.2
  unfold fIx
  rw [if_pos ha, he]
  simp
set_option maxHeartbeats 16000000 in
theorem Order_spec (s : Src) (l : List Prs) (hs : SzS s) (hl : l.length ≤ 1000) : PCall Tryz.prog 34 [dSrc s, dPs l] fun r => r = .tup [dSs (if (suV s && picksQ s l) = true then ordV s l else []), dI (if (suV s && picksQ s l) = true then 0 else 1)] := by 
 refine pcall_of Tryz.func34 rfl rfl Tryz.ntmps34 (rs := [.tmp 4, .tmp 5]) (tys := [64, 35]) rfl rfl (by simp) ?_
 have CK := sCheck_spec s [] hs ⟨by simp, by simp⟩
 have hc0 : chkV s [] = suV s := by
  unfold chkV
  rw [show nuV 8 [] = true by decide, Bool.and_true]
 rw [hc0] at CK
 have PK := fun h => spicked_spec s l h (by omega)
 by_cases hsu : suV s = true
 rotate_left
 ·have hsf : suV s = false := by simpa using hsu
  rw [hsf] at CK ⊢
  (refine awp_sr fun Y Yh=>?_;simp[go_sem];((repeat' (first|intro _|apply And.intro|(apply Yh;clear Yh Y)));all_goals first|apply Hold.mk|omega|assumption|skip))
  refine awp_frzbox 2 rfl rfl ?_
  simp only [go_sem]
  refine awp_seq_k fun K1 hK1 => ?_
  (refine awp_sr fun Y Yh=>?_;simp[go_sem];((repeat' (first|(refine ag_false ?_ ?_ ?_;(focus (simp[go_sem, undef];done));(focus (simp[go_sem];done));simp[go_sem])|(refine ag_true ?_ ?_;(focus (simp[go_sem, undef];done));simp[go_sem])|(refine ag_x ?_;simp[go_sem, undef])|intro _|apply And.intro|(apply Yh;clear Yh Y)));all_goals first|apply Hold.mk|omega|assumption|skip))
  ((try refine CallT.toA ?_);refine callT_m (.inl ⟨rfl,rfl⟩) (by simp[go_sem]) ?_;intro args ha;simp[go_sem] at ha;subst ha;refine ⟨_, CK, ?_⟩;rintro _ rfl;simp[go_sem];((repeat' (first|(refine ag_false ?_ ?_ ?_;(focus (simp[go_sem, undef];done));(focus (simp[go_sem];done));simp[go_sem])|(refine ag_true ?_ ?_;(focus (simp[go_sem, undef];done));simp[go_sem])|(refine ag_x ?_;simp[go_sem, undef])|intro _|apply And.intro|(apply Yh;clear Yh Y)));all_goals first|apply Hold.mk|omega|assumption|skip))
  (refine awp_if fun T F hT hF=>?_;simp[go_sem];refine hT ?_;clear hT hF T F)
  (refine awp_sr fun Y Yh=>?_;simp[go_sem];((repeat' (first|intro _|apply And.intro|(apply Yh;clear Yh Y)));all_goals first|apply Hold.mk|omega|assumption|skip))
  (refine awp_ret ?_;simp[go_sem])
 have PK := PK hsu
 have hno : picksQ s l = true → NumOk l := fun h => pickOk_num hsu (picksQ_ok h)
 rw [hsu] at CK ⊢
 generalize picksQ s l = pk at *
 (refine awp_sr fun Y Yh=>?_;simp[go_sem];((repeat' (first|intro _|apply And.intro|(apply Yh;clear Yh Y)));all_goals first|apply Hold.mk|omega|assumption|skip))
 refine awp_frzbox 2 rfl rfl ?_
 simp only [go_sem]
 refine awp_seq_k fun K1 hK1 => ?_
 (refine awp_sr fun Y Yh=>?_;simp[go_sem];((repeat' (first|(refine ag_false ?_ ?_ ?_;(focus (simp[go_sem, undef];done));(focus (simp[go_sem];done));simp[go_sem])|(refine ag_true ?_ ?_;(focus (simp[go_sem, undef];done));simp[go_sem])|(refine ag_x ?_;simp[go_sem, undef])|intro _|apply And.intro|(apply Yh;clear Yh Y)));all_goals first|apply Hold.mk|omega|assumption|skip))
 ((try refine CallT.toA ?_);refine callT_m (.inl ⟨rfl,rfl⟩) (by simp[go_sem]) ?_;intro args ha;simp[go_sem] at ha;subst ha;refine ⟨_, CK, ?_⟩;rintro _ rfl;simp[go_sem];((repeat' (first|(refine ag_false ?_ ?_ ?_;(focus (simp[go_sem, undef];done));(focus (simp[go_sem];done));simp[go_sem])|(refine ag_true ?_ ?_;(focus (simp[go_sem, undef];done));simp[go_sem])|(refine ag_x ?_;simp[go_sem, undef])|intro _|apply And.intro|(apply Yh;clear Yh Y)));all_goals first|apply Hold.mk|omega|assumption|skip))
 ((try refine CallT.toA ?_);refine callT_m (.inl ⟨rfl,rfl⟩) (by simp[go_sem]) ?_;intro args ha;simp[go_sem] at ha;subst ha;refine ⟨_, PK, ?_⟩;rintro _ rfl;simp[go_sem];((repeat' (first|(refine ag_false ?_ ?_ ?_;(focus (simp[go_sem, undef];done));(focus (simp[go_sem];done));simp[go_sem])|(refine ag_true ?_ ?_;(focus (simp[go_sem, undef];done));simp[go_sem])|(refine ag_x ?_;simp[go_sem, undef])|intro _|apply And.intro|(apply Yh;clear Yh Y)));all_goals first|apply Hold.mk|omega|assumption|skip))
 cases pk with
 | false =>
  (refine awp_if fun T F hT hF=>?_;simp[go_sem];refine hT ?_;clear hT hF T F)
  (refine awp_sr fun Y Yh=>?_;simp[go_sem];((repeat' (first|intro _|apply And.intro|(apply Yh;clear Yh Y)));all_goals first|apply Hold.mk|omega|assumption|skip))
  (refine awp_ret ?_;simp[go_sem])
 | true =>
 have hno := hno rfl
 (refine awp_if fun T F hT hF=>?_;simp[go_sem];refine hF ?_;clear hT hF T F)
 refine awp_skip ?_
 refine hK1 _ ?_; clear hK1
 (refine awp_sr fun Y Yh=>?_;simp[go_sem];((repeat' (first|intro _|apply And.intro|(apply Yh;clear Yh Y)));all_goals first|apply Hold.mk|omega|assumption|skip))
 (refine callA_l [900010] (.inl ⟨rfl,rfl⟩) (by simp[go_sem]) ?_;intro args ha;simp[go_sem] at ha;subst ha;refine ⟨_, _, (pclone_own 900010 l (by omega) (by decide)), (by simp[go_sem]), ?_⟩;rintro ps r hps ⟨gl, rfl, rfl⟩;simp[go_sem];((repeat' (first|intro _|apply And.intro|(apply Yh;clear Yh Y)));all_goals first|apply Hold.mk|omega|assumption|skip))
 (refine awp_sr fun Y Yh=>?_;simp[go_sem];((repeat' (first|intro _|apply And.intro|(apply Yh;clear Yh Y)));all_goals first|apply Hold.mk|omega|assumption|skip))
 rename_i gb
 refine awp_nilslot 7 900071 9 1 rfl fun g7 => ?_
 simp only [go_sem]
 refine awp_seq_k fun K3 hK3 => ?_
 refine awp_block ?_
 generalize hW : ordL s l.length l [] = W at *
 have hWo : ordV s l = W := hW
 rw [hWo]
 refine awp_loop (σ := (List Prs × List Bs) × Nat × Nat) (fun z => ⟨[(2, .rd [dGms s]), (6, .ptr 6 gb 0), (7, .own 900071 z.2.1)], [(6, (gb, .box [.own 900010 z.2.2])), (900010, (z.2.2, .row 41 2 (z.1.1.map cP))), (900071, (z.2.1, .row 9 1 (z.1.2.map cS)))]⟩) (fun z => z.1.1.length + z.1.2.length = l.length ∧ ordL s z.1.1.length z.1.1 z.1.2 = W ∧ NumOk z.1.1) (fun z => z.1.1.length) ((l, []), g7, gl) ?_ ?_ ?_
 ·(refine cov_of ?_ ?_ <;> simp[go_sem])
 ·exact ⟨by simp, hW, hno⟩
 rintro ⟨⟨left, out⟩, go, gr⟩ ⟨hlen, hO, hnl⟩
 simp only at hlen hO hnl
 refine awp_seq_k fun K4 hK4 => ?_
 (refine awp_sr fun Y Yh=>?_;simp[go_sem];((repeat' (first|intro _|apply And.intro|(apply Yh;clear Yh Y)));all_goals first|apply Hold.mk|omega|assumption|skip))
 (refine awp_if fun T F hT hF=>?_;simp[go_sem];refine BR.intro (fun h5=>hT ?_) (fun h5=>hF ?_);all_goals clear hT hF T F;try simp at h5)
 ·refine awp_skip ?_
  refine hK4 _ ?_; clear hK4
  have hl0 : 0 < left.length := by omega
  have hat := atO_lt (s := s) hl0
  obtain ⟨p0, hp0⟩ : ∃ p, left[atO s left]? = some p := ⟨_, List.getElem?_eq_getElem hat⟩
  rw [ordL_step hp0] at hO
  have IX := indexP_spec left 81 [.rd [dGms s], .rd [dPs left]] (nextO s left) (fun x _ => by
   have := order1_spec s x left hsu (by omega)
   rwa [nextC_eq hnl] at this) (by omega)
  have hmx := fIx_max (nextO s left) left
  have hmx : max (fIx (nextO s left) left) 0 = ((atO s left : Nat) : Int) := hmx
  have hle := lessN_len hat
  have hfl : -1 ≤ fIx (nextO s left) left ∧ fIx (nextO s left) left ≤ 1000 := by
   have h1 := Int.le_max_left (fIx (nextO s left) left) 0
   rw [hmx] at h1
   refine ⟨?_, by omega⟩
   unfold fIx
   split <;> omega
  generalize fIx (nextO s left) left = ix at *
  have DL := deletep_spec 900010 gr left (atO s left) hat (by decide)
  generalize hats : atO s left = a at *
  refine awp_block ?_
  (refine awp_sr fun Y Yh=>?_;simp[go_sem];((repeat' (first|intro _|apply And.intro|(apply Yh;clear Yh Y)));all_goals first|apply Hold.mk|omega|assumption|skip))
  ((try refine CallT.toA ?_);refine callT_f (.inl ⟨rfl,rfl⟩) ?_;intro args ha;simp[go_sem] at ha;subst ha;refine ⟨_, IX, ?_⟩;rintro _ rfl;refine ⟨rfl, ?_⟩;simp[go_sem];((repeat' (first|intro _|apply And.intro|(apply Yh;clear Yh Y)));all_goals first|apply Hold.mk|omega|assumption|skip))
  have hmx2 : (if ix < 0 then (0 : Int) else ix) = a := by split <;> omega
  (refine awp_sr fun Y Yh=>?_;simp[go_sem, hmx2];((repeat' (first|intro _|apply And.intro|(apply Yh;clear Yh Y)));all_goals first|apply Hold.mk|omega|assumption|skip))
  (refine awp_sr fun Y Yh=>?_;simp[go_sem, hp0, hmx2];((repeat' (first|intro _|apply And.intro|(apply Yh;clear Yh Y)));all_goals first|apply Hold.mk|omega|assumption|skip))
  rename_i gq go2
  (refine awp_r fun Y Yh=>?_;simp[go_sem, hmx2];((repeat' (first|intro _|apply And.intro|(apply Yh;clear Yh Y)));all_goals first|apply Hold.mk|omega|assumption|skip))
  (refine callA_l [900010] (.inl ⟨rfl,rfl⟩) (by simp[go_sem]) ?_;intro args ha;simp[go_sem] at ha;subst ha;refine ⟨_, _, DL, (by simp[go_sem]), ?_⟩;rintro ps r hps ⟨g2, rfl, rfl⟩;simp[go_sem];((repeat' (first|intro _|apply And.intro|(apply Yh;clear Yh Y)));all_goals first|apply Hold.mk|omega|assumption|skip))
  refine ⟨((lessN left a, out ++ [p0.1]), go2, g2), ?_, ⟨by simp only [List.length_append, List.length_cons, List.length_nil]; omega, hO, fun x hx => hnl x (lessN_mem hx)⟩, by simp only; omega⟩
  (refine cov_of ?_ ?_ <;> simp[go_sem])
 ·refine awp_exit ?_
  simp only [go_sem]
  refine hK3 _ ?_; clear hK3
  have hl0 : left = [] := by first | exact h5 | exact List.eq_nil_of_length_eq_zero (by omega)
  subst hl0
  rw [ordL_end] at hO
  subst hO
  (refine awp_sr fun Y Yh=>?_;simp[go_sem];((repeat' (first|intro _|apply And.intro|(apply Yh;clear Yh Y)));all_goals first|apply Hold.mk|omega|assumption|skip))
  refine awp_frzrow 4 rfl rfl ?_
  simp only [go_sem]
  (refine awp_ret ?_;simp[go_sem, hWo])
set_option maxHeartbeats 32000000 in
theorem Newer_spec (s : Src) (w l : List Prs) (hs : SzS s) (hw : SzN w) (hl : l.length ≤ 1000) : PCall Tryz.prog 94 [dSrc s, dPs w, dPs l] fun r => r = .tup [dPs (if (okQ s w l && solQ (allN s w l) l) = true then newTo s w l l.length else []), dI (if (okQ s w l && solQ (allN s w l) l) = true then 0 else 1)] := by 
 refine pcall_of Tryz.func94 rfl rfl Tryz.ntmps94 (rs := [.tmp 6, .tmp 7]) (tys := [34, 35]) rfl rfl (by simp) ?_
 have CK := sCheck_spec s w hs hw
 by_cases hc : chkV s w = true
 rotate_left
 ·have hcf : chkV s w = false := by simpa using hc
  have hok : okQ s w l = false := by unfold okQ; rw [hcf]; rfl
  rw [hcf] at CK
  rw [hok]
  (refine awp_sr fun Y Yh=>?_;simp[go_sem];((repeat' (first|intro _|apply And.intro|(apply Yh;clear Yh Y)));all_goals first|apply Hold.mk|omega|assumption|skip))
  refine awp_frzbox 3 rfl rfl ?_
  simp only [go_sem]
  refine awp_seq_k fun K1 hK1 => ?_
  (refine awp_sr fun Y Yh=>?_;simp[go_sem];((repeat' (first|(refine ag_false ?_ ?_ ?_;(focus (simp[go_sem, undef];done));(focus (simp[go_sem];done));simp[go_sem])|(refine ag_true ?_ ?_;(focus (simp[go_sem, undef];done));simp[go_sem])|(refine ag_x ?_;simp[go_sem, undef])|intro _|apply And.intro|(apply Yh;clear Yh Y)));all_goals first|apply Hold.mk|omega|assumption|skip))
  ((try refine CallT.toA ?_);refine callT_m (.inl ⟨rfl,rfl⟩) (by simp[go_sem]) ?_;intro args ha;simp[go_sem] at ha;subst ha;refine ⟨_, CK, ?_⟩;rintro _ rfl;simp[go_sem];((repeat' (first|(refine ag_false ?_ ?_ ?_;(focus (simp[go_sem, undef];done));(focus (simp[go_sem];done));simp[go_sem])|(refine ag_true ?_ ?_;(focus (simp[go_sem, undef];done));simp[go_sem])|(refine ag_x ?_;simp[go_sem, undef])|intro _|apply And.intro|(apply Yh;clear Yh Y)));all_goals first|apply Hold.mk|omega|assumption|skip))
  (refine awp_if fun T F hT hF=>?_;simp[go_sem];refine hT ?_;clear hT hF T F)
  (refine awp_sr fun Y Yh=>?_;simp[go_sem];((repeat' (first|intro _|apply And.intro|(apply Yh;clear Yh Y)));all_goals first|apply Hold.mk|omega|assumption|skip))
  (refine awp_ret ?_;simp[go_sem])
 have hsu := (chk_parts hc).1
 have PK := spicked_spec s l hsu (by omega)
 have hokp : okQ s w l = picksQ s l := by unfold okQ; rw [hc]; rfl
 rw [hokp]
 rw [hc] at CK
 by_cases hp : picksQ s l = true
 rotate_left
 ·have hpf : picksQ s l = false := by simpa using hp
  rw [hpf] at PK ⊢
  (refine awp_sr fun Y Yh=>?_;simp[go_sem];((repeat' (first|intro _|apply And.intro|(apply Yh;clear Yh Y)));all_goals first|apply Hold.mk|omega|assumption|skip))
  refine awp_frzbox 3 rfl rfl ?_
  simp only [go_sem]
  refine awp_seq_k fun K1 hK1 => ?_
  (refine awp_sr fun Y Yh=>?_;simp[go_sem];((repeat' (first|(refine ag_false ?_ ?_ ?_;(focus (simp[go_sem, undef];done));(focus (simp[go_sem];done));simp[go_sem])|(refine ag_true ?_ ?_;(focus (simp[go_sem, undef];done));simp[go_sem])|(refine ag_x ?_;simp[go_sem, undef])|intro _|apply And.intro|(apply Yh;clear Yh Y)));all_goals first|apply Hold.mk|omega|assumption|skip))
  ((try refine CallT.toA ?_);refine callT_m (.inl ⟨rfl,rfl⟩) (by simp[go_sem]) ?_;intro args ha;simp[go_sem] at ha;subst ha;refine ⟨_, CK, ?_⟩;rintro _ rfl;simp[go_sem];((repeat' (first|(refine ag_false ?_ ?_ ?_;(focus (simp[go_sem, undef];done));(focus (simp[go_sem];done));simp[go_sem])|(refine ag_true ?_ ?_;(focus (simp[go_sem, undef];done));simp[go_sem])|(refine ag_x ?_;simp[go_sem, undef])|intro _|apply And.intro|(apply Yh;clear Yh Y)));all_goals first|apply Hold.mk|omega|assumption|skip))
  ((try refine CallT.toA ?_);refine callT_m (.inl ⟨rfl,rfl⟩) (by simp[go_sem]) ?_;intro args ha;simp[go_sem] at ha;subst ha;refine ⟨_, PK, ?_⟩;rintro _ rfl;simp[go_sem];((repeat' (first|(refine ag_false ?_ ?_ ?_;(focus (simp[go_sem, undef];done));(focus (simp[go_sem];done));simp[go_sem])|(refine ag_true ?_ ?_;(focus (simp[go_sem, undef];done));simp[go_sem])|(refine ag_x ?_;simp[go_sem, undef])|intro _|apply And.intro|(apply Yh;clear Yh Y)));all_goals first|apply Hold.mk|omega|assumption|skip))
  (refine awp_if fun T F hT hF=>?_;simp[go_sem];refine hT ?_;clear hT hF T F)
  (refine awp_sr fun Y Yh=>?_;simp[go_sem];((repeat' (first|intro _|apply And.intro|(apply Yh;clear Yh Y)));all_goals first|apply Hold.mk|omega|assumption|skip))
  (refine awp_ret ?_;simp[go_sem])
 have hpo := picksQ_ok hp
 have hlz := pick_sz hsu hpo
 have hno := pickOk_num hsu hpo
 have IS := sis_spec s w l hsu hw (by omega) hlz hno hpo.2
 rw [hp] at PK ⊢
 generalize solQ (allN s w l) l = sq at *
 (refine awp_sr fun Y Yh=>?_;simp[go_sem];((repeat' (first|intro _|apply And.intro|(apply Yh;clear Yh Y)));all_goals first|apply Hold.mk|omega|assumption|skip))
 refine awp_frzbox 3 rfl rfl ?_
 simp only [go_sem]
 refine awp_seq_k fun K1 hK1 => ?_
 (refine awp_sr fun Y Yh=>?_;simp[go_sem];((repeat' (first|(refine ag_false ?_ ?_ ?_;(focus (simp[go_sem, undef];done));(focus (simp[go_sem];done));simp[go_sem])|(refine ag_true ?_ ?_;(focus (simp[go_sem, undef];done));simp[go_sem])|(refine ag_x ?_;simp[go_sem, undef])|intro _|apply And.intro|(apply Yh;clear Yh Y)));all_goals first|apply Hold.mk|omega|assumption|skip))
 ((try refine CallT.toA ?_);refine callT_m (.inl ⟨rfl,rfl⟩) (by simp[go_sem]) ?_;intro args ha;simp[go_sem] at ha;subst ha;refine ⟨_, CK, ?_⟩;rintro _ rfl;simp[go_sem];((repeat' (first|(refine ag_false ?_ ?_ ?_;(focus (simp[go_sem, undef];done));(focus (simp[go_sem];done));simp[go_sem])|(refine ag_true ?_ ?_;(focus (simp[go_sem, undef];done));simp[go_sem])|(refine ag_x ?_;simp[go_sem, undef])|intro _|apply And.intro|(apply Yh;clear Yh Y)));all_goals first|apply Hold.mk|omega|assumption|skip))
 ((try refine CallT.toA ?_);refine callT_m (.inl ⟨rfl,rfl⟩) (by simp[go_sem]) ?_;intro args ha;simp[go_sem] at ha;subst ha;refine ⟨_, PK, ?_⟩;rintro _ rfl;simp[go_sem];((repeat' (first|(refine ag_false ?_ ?_ ?_;(focus (simp[go_sem, undef];done));(focus (simp[go_sem];done));simp[go_sem])|(refine ag_true ?_ ?_;(focus (simp[go_sem, undef];done));simp[go_sem])|(refine ag_x ?_;simp[go_sem, undef])|intro _|apply And.intro|(apply Yh;clear Yh Y)));all_goals first|apply Hold.mk|omega|assumption|skip))
 ((try refine CallT.toA ?_);refine callT_m (.inl ⟨rfl,rfl⟩) (by simp[go_sem]) ?_;intro args ha;simp[go_sem] at ha;subst ha;refine ⟨_, IS, ?_⟩;rintro _ rfl;simp[go_sem];((repeat' (first|(refine ag_false ?_ ?_ ?_;(focus (simp[go_sem, undef];done));(focus (simp[go_sem];done));simp[go_sem])|(refine ag_true ?_ ?_;(focus (simp[go_sem, undef];done));simp[go_sem])|(refine ag_x ?_;simp[go_sem, undef])|intro _|apply And.intro|(apply Yh;clear Yh Y)));all_goals first|apply Hold.mk|omega|assumption|skip))
 cases sq with
 | false =>
  (refine awp_if fun T F hT hF=>?_;simp[go_sem];refine hT ?_;clear hT hF T F)
  (refine awp_sr fun Y Yh=>?_;simp[go_sem];((repeat' (first|intro _|apply And.intro|(apply Yh;clear Yh Y)));all_goals first|apply Hold.mk|omega|assumption|skip))
  (refine awp_ret ?_;simp[go_sem])
 | true =>
 (refine awp_if fun T F hT hF=>?_;simp[go_sem];refine hF ?_;clear hT hF T F)
 refine awp_skip ?_
 refine hK1 _ ?_; clear hK1
 (refine awp_sr fun Y Yh=>?_;simp[go_sem];((repeat' (first|intro _|apply And.intro|(apply Yh;clear Yh Y)));all_goals first|apply Hold.mk|omega|assumption|skip))
 refine awp_nilslot 8 900091 41 2 rfl fun g8 => ?_
 simp only [go_sem]
 refine awp_seq_k fun K3 hK3 => ?_
 (refine awp_sr fun Y Yh=>?_;simp[go_sem];((repeat' (first|intro _|apply And.intro|(apply Yh;clear Yh Y)));all_goals first|apply Hold.mk|omega|assumption|skip))
 refine awp_block ?_
 refine awp_loop (σ := Nat × Nat) (fun z => ⟨[(1, dPs w), (2, dPs l), (3, .rd [dGms s]), (8, .own 900091 z.2), (36, dPs l), (37, dI l.length), (38, dI z.1)], [(900091, (z.2, .row 41 2 ((newTo s w l z.1).map cP)))]⟩) (fun z => z.1 ≤ l.length) (fun z => l.length - z.1) (0, g8) ?_ ?_ ?_
 ·(refine cov_of ?_ ?_ <;> simp[go_sem, newTo])
 ·simp
 rintro ⟨i, go⟩ hi
 simp only at hi
 (refine awp_sr fun Y Yh=>?_;simp[go_sem];((repeat' (first|intro _|apply And.intro|(apply Yh;clear Yh Y)));all_goals first|apply Hold.mk|omega|assumption|skip))
 refine awp_seq_k fun K4 hK4 => ?_
 (refine awp_if fun T F hT hF=>?_;simp[go_sem];refine BR.intro (fun h5=>hT ?_) (fun h5=>hF ?_);all_goals clear hT hF T F;try simp at h5)
 ·refine awp_skip ?_
  refine hK4 _ ?_; clear hK4
  have hil : i < l.length := by omega
  obtain ⟨x, hx⟩ : ∃ x, l[i]? = some x := ⟨_, List.getElem?_eq_getElem hil⟩
  have hxm := List.mem_of_getElem? hx
  have hst := newTo_snoc (s := s) (w := w) hx
  have hnl := newTo_len s w l i
  obtain ⟨hx1, hx2⟩ := hlz x hxm
  have hnw : newN s w l i x = ((gemV s x.1).map (fun g => g.2.foldl (newB s w l i) x.2)).getD x.2 := rfl
  have GM := gem_spec s x.1 hsu
  obtain ⟨G, hGg⟩ : ∃ G, gemV s x.1 = some G := by
   obtain ⟨g, hg, e, _⟩ := hpo.1 x hxm
   exact ⟨g, by rw [← e]; exact gemV_of hsu hg⟩
  have hGm := gemV_mem hGg
  obtain ⟨hGz1, hGz2, hGz3⟩ := hs.2 G hGm.1
  have hGv := (vuV_parts ((suV_parts hsu).2 G hGm.1).2).2
  rw [hGg] at GM hnw
  simp only [Option.getD_some, Option.map_some, Option.isSome_some] at GM hnw
  generalize newN s w l i x = nw at *
  refine awp_seq_k fun K6 hK6 => ?_
  have tl6 : ∀ S' g', Cov S' ⟨[(1, dPs w), (2, dPs l), (3, .rd [dGms s]), (8, .own 900091 g'), (36, dPs l), (37, dI l.length), (38, dI i)], [(900091, (g', .row 41 2 ((newTo s w l (i + 1)).map cP)))]⟩ → K6 S' := fun S' g' hS => by
   refine hK6 _ ?_; clear hK6
   refine awp_cov hS ?_; clear hS
   (refine awp_r fun Y Yh=>?_;simp[go_sem];((repeat' (first|intro _|apply And.intro|(apply Yh;clear Yh Y)));all_goals first|apply Hold.mk|omega|assumption|skip))
   refine ⟨(i + 1, g'), ?_, by simp only; omega, by simp only; omega⟩
   (refine cov_of ?_ ?_ <;> simp[go_sem])
  clear hK6
  refine awp_block ?_
  (refine awp_sr fun Y Yh=>?_;simp[go_sem, hx];((repeat' (first|intro _|apply And.intro|(apply Yh;clear Yh Y)));all_goals first|apply Hold.mk|omega|assumption|skip))
  refine awp_frzbox 10 rfl rfl ?_
  simp only [go_sem]
  (refine awp_sr fun Y Yh=>?_;simp[go_sem];((repeat' (first|intro _|apply And.intro|(apply Yh;clear Yh Y)));all_goals first|apply Hold.mk|omega|assumption|skip))
  (refine awp_sr fun Y Yh=>?_;simp[go_sem];((repeat' (first|intro _|apply And.intro|(apply Yh;clear Yh Y)));all_goals first|apply Hold.mk|omega|assumption|skip))
  ((try refine CallT.toA ?_);refine callT_m (.inl ⟨rfl,rfl⟩) (by simp[go_sem]) ?_;intro args ha;simp[go_sem] at ha;subst ha;refine ⟨_, GM, ?_⟩;rintro _ rfl;simp[go_sem];((repeat' (first|intro _|apply And.intro|(apply Yh;clear Yh Y)));all_goals first|apply Hold.mk|omega|assumption|skip))
  refine awp_frzbox 12 rfl rfl ?_
  simp only [go_sem]
  refine awp_seq_k fun K7 hK7 => ?_
  (refine awp_sr fun Y Yh=>?_;simp[go_sem];((repeat' (first|intro _|apply And.intro|(apply Yh;clear Yh Y)));all_goals first|apply Hold.mk|omega|assumption|skip))
  refine awp_block ?_
  refine awp_loop (σ := Nat) (fun k => ⟨[(1, dPs w), (2, dPs l), (3, .rd [dGms s]), (8, .own 900091 go), (9, dI i), (10, .rd [dS x.1, dS x.2]), (11, dS ((G.2.take k).foldl (newB s w l i) x.2)), (36, dPs l), (37, dI l.length), (38, dI i), (53, dVrs G.2), (54, dI G.2.length), (55, dI k)], [(900091, (go, .row 41 2 ((newTo s w l i).map cP)))]⟩) (fun k => k ≤ G.2.length ∧ ((G.2.take k).foldl (newB s w l i) x.2).length ≤ 1000000) (fun k => G.2.length - k) 0 ?_ ?_ ?_
  ·(refine cov_of ?_ ?_ <;> simp[go_sem])
  ·exact ⟨by simp, by simpa using hx2⟩
  rintro k ⟨hk, hbz⟩
  (refine awp_sr fun Y Yh=>?_;simp[go_sem];((repeat' (first|intro _|apply And.intro|(apply Yh;clear Yh Y)));all_goals first|apply Hold.mk|omega|assumption|skip))
  refine awp_seq_k fun K8 hK8 => ?_
  (refine awp_if fun T F hT hF=>?_;simp[go_sem];refine BR.intro (fun h9=>hT ?_) (fun h9=>hF ?_);all_goals clear hT hF T F;try simp at h9)
  ·refine awp_skip ?_
   refine hK8 _ ?_; clear hK8
   obtain ⟨v, hv⟩ : ∃ v, G.2[k]? = some v := ⟨_, List.getElem?_eq_getElem (by omega)⟩
   have hvm := List.mem_of_getElem? hv
   obtain ⟨hvz, hvn⟩ := hGz3 v hvm
   have hv0 : v.1 ≠ [] := readV_ne (hGv v hvm).1
   have hfb := foldl_take (newB s w l i) x.2 hv
   have hbz2 := newB_sz (s := s) (w := w) (l := l) (i := i) hbz hvz
   have hsl := setN_len l i v.1
   have AL : ∀ y ∈ setN l i v.1, Sz1 y := fun y hy => by
    rcases setN_mem hx hy with q | q
    ·exact hlz y q
    ·subst q; exact ⟨hx1, hvz⟩
   have NO : NumOk (setN l i v.1) := fun y hy => by
    rcases setN_mem hx hy with q | q
    ·exact hno y q
    ·subst q; exact hv0
   have ND : ((setN l i v.1).map (·.1)).Nodup := by rw [setN_nm hx]; exact hpo.2
   have SL := sis_spec s w (setN l i v.1) hsu hw (by omega) AL NO ND
   rw [setN_at hx] at SL
   have CM := Compare_spec v.1 ((G.2.take k).foldl (newB s w l i) x.2) hvz hbz
   have hnb : newB s w l i ((G.2.take k).foldl (newB s w l i) x.2) v = if 0 < compareP v.1 ((G.2.take k).foldl (newB s w l i) x.2) ∧ solQ (allN s w (l.set i (x.1, v.1))) (l.set i (x.1, v.1)) = true then v.1 else (G.2.take k).foldl (newB s w l i) x.2 := by unfold newB; rw [setN_at hx]
   rw [← hfb] at hnb hbz2
   generalize hb1 : (G.2.take k).foldl (newB s w l i) x.2 = b1 at *
   generalize hb2 : (G.2.take (k + 1)).foldl (newB s w l i) x.2 = b2 at *
   refine awp_seq_k fun K10 hK10 => ?_
   have tl10 : ∀ S', Cov S' ⟨[(1, dPs w), (2, dPs l), (3, .rd [dGms s]), (8, .own 900091 go), (9, dI i), (10, .rd [dS x.1, dS x.2]), (11, dS b2), (36, dPs l), (37, dI l.length), (38, dI i), (53, dVrs G.2), (54, dI G.2.length), (55, dI k)], [(900091, (go, .row 41 2 ((newTo s w l i).map cP)))]⟩ → K10 S' := fun S' hS => by
    refine hK10 _ ?_; clear hK10
    refine awp_cov hS ?_; clear hS
    (refine awp_r fun Y Yh=>?_;simp[go_sem];((repeat' (first|intro _|apply And.intro|(apply Yh;clear Yh Y)));all_goals first|apply Hold.mk|omega|assumption|skip))
    refine ⟨k + 1, ?_, ⟨by omega, by rw [hb2]; exact hbz2⟩, by omega⟩
    rw [hb2]
    (refine cov_of ?_ ?_ <;> simp[go_sem])
   clear hK10
   refine awp_block ?_
   (refine awp_sr fun Y Yh=>?_;simp[go_sem, hv];((repeat' (first|intro _|apply And.intro|(apply Yh;clear Yh Y)));all_goals first|apply Hold.mk|omega|assumption|skip))
   refine awp_frzbox 15 rfl rfl ?_
   simp only [go_sem]
   refine awp_seq_k fun K11 hK11 => ?_
   (refine awp_sr fun Y Yh=>?_;simp[go_sem];((repeat' (first|intro _|apply And.intro|(apply Yh;clear Yh Y)));all_goals first|apply Hold.mk|omega|assumption|skip))
   ((try refine CallT.toA ?_);refine callT_m (.inl ⟨rfl,rfl⟩) (by simp[go_sem]) ?_;intro args ha;simp[go_sem] at ha;subst ha;refine ⟨_, CM, ?_⟩;rintro _ rfl;simp[go_sem];((repeat' (first|intro _|apply And.intro|(apply Yh;clear Yh Y)));all_goals first|apply Hold.mk|omega|assumption|skip))
   (refine awp_sr fun Y Yh=>?_;simp[go_sem];((repeat' (first|intro _|apply And.intro|(apply Yh;clear Yh Y)));all_goals first|apply Hold.mk|omega|assumption|skip))
   by_cases hcm : 0 < compareP v.1 b1
   ·have hcm2 : ¬ compareP v.1 b1 ≤ 0 := by omega
    generalize compareP v.1 b1 = cm at *
    (refine awp_if fun T F hT hF=>?_;simp[go_sem, hcm2];refine hF ?_;clear hT hF T F)
    refine awp_skip ?_
    refine hK11 _ ?_; clear hK11
    have hcell : dPs (l.set i (x.1, v.1)) = D.sl 2 ((l.map cP).set i [dS x.1, dS v.1]) := by show D.sl 2 _ = _; rw [List.map_set]
    (refine awp_sr fun Y Yh=>?_;simp[go_sem];((repeat' (first|intro _|apply And.intro|(apply Yh;clear Yh Y)));all_goals first|apply Hold.mk|omega|assumption|skip))
    (refine callA_l [900010] (.inl ⟨rfl,rfl⟩) (by simp[go_sem]) ?_;intro args ha;simp[go_sem] at ha;subst ha;refine ⟨_, _, (pclone_own 900010 l (by omega) (by decide)), (by simp[go_sem]), ?_⟩;rintro ps r hps ⟨gl, rfl, rfl⟩;simp[go_sem];((repeat' (first|intro _|apply And.intro|(apply Yh;clear Yh Y)));all_goals first|apply Hold.mk|omega|assumption|skip))
    (refine awp_sr fun Y Yh=>?_;simp[go_sem, hx];((repeat' (first|intro _|apply And.intro|(apply Yh;clear Yh Y)));all_goals first|apply Hold.mk|omega|assumption|skip))
    refine awp_frzrow 18 rfl rfl ?_
    simp only [go_sem]
    rw [← hcell]
    generalize hL : l.set i (x.1, v.1) = L at *
    generalize solQ (allN s w L) L = sq at *
    (refine awp_sr fun Y Yh=>?_;simp[go_sem];((repeat' (first|intro _|apply And.intro|(apply Yh;clear Yh Y)));all_goals first|apply Hold.mk|omega|assumption|skip))
    ((try refine CallT.toA ?_);refine callT_m (.inl ⟨rfl,rfl⟩) (by simp[go_sem]) ?_;intro args ha;simp[go_sem] at ha;subst ha;refine ⟨_, SL, ?_⟩;rintro _ rfl;simp[go_sem];((repeat' (first|intro _|apply And.intro|(apply Yh;clear Yh Y)));all_goals first|apply Hold.mk|omega|assumption|skip))
    cases sq with
    | true =>
     rw [if_pos ⟨hcm, rfl⟩] at hnb
     (refine awp_if fun T F hT hF=>?_;simp[go_sem];refine hT ?_;clear hT hF T F)
     (refine awp_r fun Y Yh=>?_;simp[go_sem];((repeat' (first|intro _|apply And.intro|(apply Yh;clear Yh Y)));all_goals first|apply Hold.mk|omega|assumption|skip))
     refine tl10 _ ?_
     rw [hnb]
     (refine cov_of ?_ ?_ <;> simp[go_sem])
    | false =>
     rw [if_neg (fun q => by cases q.2)] at hnb
     (refine awp_if fun T F hT hF=>?_;simp[go_sem];refine hF ?_;clear hT hF T F)
     refine awp_skip ?_
     refine tl10 _ ?_
     rw [hnb]
     (refine cov_of ?_ ?_ <;> simp[go_sem])
   ·rw [if_neg (fun q => hcm q.1)] at hnb
    have hcm2 : compareP v.1 b1 ≤ 0 := by omega
    generalize compareP v.1 b1 = cm at *
    (refine awp_if fun T F hT hF=>?_;simp[go_sem, hcm2];refine hT ?_;clear hT hF T F)
    refine awp_exit ?_
    simp only [go_sem]
    refine tl10 _ ?_
    rw [hnb]
    (refine cov_of ?_ ?_ <;> simp[go_sem])
  ·refine awp_exit ?_
   simp only [go_sem]
   refine hK7 _ ?_; clear hK7
   have hke : k = G.2.length := by omega
   subst hke
   rw [List.take_length, ← hnw]
   rw [List.take_length, ← hnw] at hbz
   by_cases he : nw = x.2
   ·rw [if_pos he] at hst
    (refine awp_sr fun Y Yh=>?_;simp[go_sem, he];((repeat' (first|intro _|apply And.intro|(apply Yh;clear Yh Y)));all_goals first|apply Hold.mk|omega|assumption|skip))
    (refine awp_if fun T F hT hF=>?_;simp[go_sem, he];refine hF ?_;clear hT hF T F)
    refine awp_skip ?_
    refine tl6 _ go ?_
    rw [hst]
    (refine cov_of ?_ ?_ <;> simp[go_sem])
   ·rw [if_neg he] at hst
    have heb : (nw == x.2) = false := by simp [he]
    (refine awp_sr fun Y Yh=>?_;simp[go_sem, he];((repeat' (first|intro _|apply And.intro|(apply Yh;clear Yh Y)));all_goals first|apply Hold.mk|omega|assumption|skip))
    (refine awp_if fun T F hT hF=>?_;simp[go_sem, he, heb];refine hT ?_;clear hT hF T F)
    (refine awp_r fun Y Yh=>?_;simp[go_sem];((repeat' (first|intro _|apply And.intro|(apply Yh;clear Yh Y)));all_goals first|apply Hold.mk|omega|assumption|skip))
    rename_i gq g'
    refine tl6 _ g' ?_
    rw [hst]
    (refine cov_of ?_ ?_ <;> simp[go_sem])
 ·refine awp_exit ?_
  simp only [go_sem]
  refine hK3 _ ?_; clear hK3
  have hie : i = l.length := by omega
  subst hie
  (refine awp_sr fun Y Yh=>?_;simp[go_sem];((repeat' (first|intro _|apply And.intro|(apply Yh;clear Yh Y)));all_goals first|apply Hold.mk|omega|assumption|skip))
  refine awp_frzrow 6 rfl rfl ?_
  simp only [go_sem]
  (refine awp_ret ?_;simp[go_sem])
end Go.Proofs.YteekfnhhlcmcgaaGreatDoor
set_option maxRecDepth 20000
namespace Go.Lk
open Go.Lib Go.Wh Go.Ver
theorem ordV_len (s : Src) (l : List Prs) : (ordV s l).length = l.length := by
 have := (ordV_perm s l).length_eq
 simpa using this
end Go.Lk
namespace Go.Proofs.YteekfnhhlcmcgaaGreatDoor
open Go.Eng Go.Wh Go.Ver Go.Lk
set_option maxRecDepth 20000
attribute [local irreducible] AG CallA CallT AWp PCall ACall AgC
set_option maxHeartbeats 16000000 in
theorem asks_spec (s : Src) (w l : List Prs) (hs : SzS s) (hw : SzN w) (hl : l.length ≤ 1000) : PCall Tryz.prog 41 [dSrc s, dPs w, dPs l] fun r => r = dB true := by 
 refine pcall_of Tryz.func41 rfl rfl Tryz.ntmps41 (rs := [.tmp 6]) (tys := [4]) rfl rfl (by simp) ?_
 have I1 := Is_spec s w l hs hw (by omega)
 have I2 := rIs_spec s w l hs hw hl
 have M1 := Missing_spec s w l hs hw (by omega)
 have M2 := rMissing_spec s w l hs hw hl
 have E1 := Newer_spec s w l hs hw hl
 have E2 := rNewer_spec s w l hs hw hl
 have O1 := Order_spec s l hs hl
 have O2 := rOrder_spec s l hs hl
 have hml : (if okQ s w l = true then lackV (allN s w l) l else []).length ≤ 1000000 := by
  split
  ·rename_i h
   unfold okQ at h
   rw [Bool.and_eq_true] at h
   have h1 := allN_len6 (chk_parts h.1).1 w l
   have h2 := lack_len (allN s w l) l
   have h3 : w.length ≤ 8 := by
    have := h.1
    unfold chkV at this
    rw [Bool.and_eq_true] at this
    exact (nuV_parts this.2).1
   omega
  ·simp
 have hnl : (if (okQ s w l && solQ (allN s w l) l) = true then newTo s w l l.length else []).length ≤ 1000000 := by
  split
  ·have := newTo_len s w l l.length; omega
  ·simp
 have hol : (if (suV s && picksQ s l) = true then ordV s l else []).length ≤ 1000000 := by
  split
  ·have := ordV_len s l; omega
  ·simp
 have SM := sameNeeds_spec _ _ hml hml
 have SP := samePicks_spec _ _ hnl hnl
 have TX := texts12_spec _ _ hol hol
 simp only [decide_true] at SM SP TX
 generalize (okQ s w l && solQ (allN s w l) l) = is1 at *
 generalize (suV s && picksQ s l) = or1 at *
 generalize okQ s w l = ok at *
 generalize (if ok = true then lackV (allN s w l) l else []) = vm at *
 generalize (if is1 = true then newTo s w l l.length else []) = vn at *
 generalize (if or1 = true then ordV s l else []) = vo at *
 generalize (if ok = true then (0 : Int) else 1) = e1 at *
 generalize (if is1 = true then (0 : Int) else 1) = e2 at *
 generalize (if or1 = true then (0 : Int) else 1) = e3 at *
 (refine awp_sr fun Y Yh=>?_;simp[go_sem];((repeat' (first|intro _|apply And.intro|(apply Yh;clear Yh Y)));all_goals first|apply Hold.mk|omega|assumption|skip))
 refine awp_frzbox 3 rfl rfl ?_
 simp only [go_sem]
 (refine awp_sr fun Y Yh=>?_;simp[go_sem];((repeat' (first|intro _|apply And.intro|(apply Yh;clear Yh Y)));all_goals first|apply Hold.mk|omega|assumption|skip))
 ((try refine CallT.toA ?_);refine callT_m (.inl ⟨rfl,rfl⟩) (by simp[go_sem]) ?_;intro args ha;simp[go_sem] at ha;subst ha;refine ⟨_, (As_spec s hs), ?_⟩;rintro _ rfl;simp[go_sem];((repeat' (first|intro _|apply And.intro|(apply Yh;clear Yh Y)));all_goals first|apply Hold.mk|omega|assumption|skip))
 refine awp_frzbox 7 rfl rfl ?_
 simp only [go_sem]
 (refine awp_sr fun Y Yh=>?_;simp[go_sem];((repeat' (first|intro _|apply And.intro|(apply Yh;clear Yh Y)));all_goals first|apply Hold.mk|omega|assumption|skip))
 ((try refine CallT.toA ?_);refine callT_m (.inl ⟨rfl,rfl⟩) (by simp[go_sem]) ?_;intro args ha;simp[go_sem] at ha;subst ha;refine ⟨_, (needs12_spec w hw.1), ?_⟩;rintro _ rfl;simp[go_sem];((repeat' (first|intro _|apply And.intro|(apply Yh;clear Yh Y)));all_goals first|apply Hold.mk|omega|assumption|skip))
 (refine awp_sr fun Y Yh=>?_;simp[go_sem];((repeat' (first|intro _|apply And.intro|(apply Yh;clear Yh Y)));all_goals first|apply Hold.mk|omega|assumption|skip))
 ((try refine CallT.toA ?_);refine callT_m (.inl ⟨rfl,rfl⟩) (by simp[go_sem]) ?_;intro args ha;simp[go_sem] at ha;subst ha;refine ⟨_, (pks12_spec l (by omega)), ?_⟩;rintro _ rfl;simp[go_sem];((repeat' (first|intro _|apply And.intro|(apply Yh;clear Yh Y)));all_goals first|apply Hold.mk|omega|assumption|skip))
 (refine awp_sr fun Y Yh=>?_;simp[go_sem];((repeat' (first|intro _|apply And.intro|(apply Yh;clear Yh Y)));all_goals first|apply Hold.mk|omega|assumption|skip))
 ((try refine CallT.toA ?_);refine callT_m (.inl ⟨rfl,rfl⟩) (by simp[go_sem]) ?_;intro args ha;simp[go_sem] at ha;subst ha;refine ⟨_, I1, ?_⟩;rintro _ rfl;simp[go_sem];((repeat' (first|intro _|apply And.intro|(apply Yh;clear Yh Y)));all_goals first|apply Hold.mk|omega|assumption|skip))
 (refine awp_sr fun Y Yh=>?_;simp[go_sem];((repeat' (first|intro _|apply And.intro|(apply Yh;clear Yh Y)));all_goals first|apply Hold.mk|omega|assumption|skip))
 ((try refine CallT.toA ?_);refine callT_m (.inl ⟨rfl,rfl⟩) (by simp[go_sem]) ?_;intro args ha;simp[go_sem] at ha;subst ha;refine ⟨_, I2, ?_⟩;rintro _ rfl;simp[go_sem];((repeat' (first|intro _|apply And.intro|(apply Yh;clear Yh Y)));all_goals first|apply Hold.mk|omega|assumption|skip))
 (refine awp_sr fun Y Yh=>?_;simp[go_sem];((repeat' (first|intro _|apply And.intro|(apply Yh;clear Yh Y)));all_goals first|apply Hold.mk|omega|assumption|skip))
 ((try refine CallT.toA ?_);refine callT_m (.inl ⟨rfl,rfl⟩) (by simp[go_sem]) ?_;intro args ha;simp[go_sem] at ha;subst ha;refine ⟨_, M1, ?_⟩;rintro _ rfl;simp[go_sem];((repeat' (first|intro _|apply And.intro|(apply Yh;clear Yh Y)));all_goals first|apply Hold.mk|omega|assumption|skip))
 (refine awp_sr fun Y Yh=>?_;simp[go_sem];((repeat' (first|intro _|apply And.intro|(apply Yh;clear Yh Y)));all_goals first|apply Hold.mk|omega|assumption|skip))
 ((try refine CallT.toA ?_);refine callT_m (.inl ⟨rfl,rfl⟩) (by simp[go_sem]) ?_;intro args ha;simp[go_sem] at ha;subst ha;refine ⟨_, M2, ?_⟩;rintro _ rfl;simp[go_sem];((repeat' (first|intro _|apply And.intro|(apply Yh;clear Yh Y)));all_goals first|apply Hold.mk|omega|assumption|skip))
 (refine awp_sr fun Y Yh=>?_;simp[go_sem];((repeat' (first|intro _|apply And.intro|(apply Yh;clear Yh Y)));all_goals first|apply Hold.mk|omega|assumption|skip))
 ((try refine CallT.toA ?_);refine callT_m (.inl ⟨rfl,rfl⟩) (by simp[go_sem]) ?_;intro args ha;simp[go_sem] at ha;subst ha;refine ⟨_, E1, ?_⟩;rintro _ rfl;simp[go_sem];((repeat' (first|intro _|apply And.intro|(apply Yh;clear Yh Y)));all_goals first|apply Hold.mk|omega|assumption|skip))
 (refine awp_sr fun Y Yh=>?_;simp[go_sem];((repeat' (first|intro _|apply And.intro|(apply Yh;clear Yh Y)));all_goals first|apply Hold.mk|omega|assumption|skip))
 ((try refine CallT.toA ?_);refine callT_m (.inl ⟨rfl,rfl⟩) (by simp[go_sem]) ?_;intro args ha;simp[go_sem] at ha;subst ha;refine ⟨_, E2, ?_⟩;rintro _ rfl;simp[go_sem];((repeat' (first|intro _|apply And.intro|(apply Yh;clear Yh Y)));all_goals first|apply Hold.mk|omega|assumption|skip))
 (refine awp_sr fun Y Yh=>?_;simp[go_sem];((repeat' (first|intro _|apply And.intro|(apply Yh;clear Yh Y)));all_goals first|apply Hold.mk|omega|assumption|skip))
 ((try refine CallT.toA ?_);refine callT_m (.inl ⟨rfl,rfl⟩) (by simp[go_sem]) ?_;intro args ha;simp[go_sem] at ha;subst ha;refine ⟨_, O1, ?_⟩;rintro _ rfl;simp[go_sem];((repeat' (first|intro _|apply And.intro|(apply Yh;clear Yh Y)));all_goals first|apply Hold.mk|omega|assumption|skip))
 (refine awp_sr fun Y Yh=>?_;simp[go_sem];((repeat' (first|intro _|apply And.intro|(apply Yh;clear Yh Y)));all_goals first|apply Hold.mk|omega|assumption|skip))
 ((try refine CallT.toA ?_);refine callT_m (.inl ⟨rfl,rfl⟩) (by simp[go_sem]) ?_;intro args ha;simp[go_sem] at ha;subst ha;refine ⟨_, O2, ?_⟩;rintro _ rfl;simp[go_sem];((repeat' (first|intro _|apply And.intro|(apply Yh;clear Yh Y)));all_goals first|apply Hold.mk|omega|assumption|skip))
 (refine awp_sr fun Y Yh=>?_;simp[go_sem];((repeat' (first|(refine ag_false ?_ ?_ ?_;(focus (simp[go_sem, undef];done));(focus (simp[go_sem];done));simp[go_sem])|(refine ag_true ?_ ?_;(focus (simp[go_sem, undef];done));simp[go_sem])|(refine ag_x ?_;simp[go_sem, undef])|intro _|apply And.intro|(apply Yh;clear Yh Y)));all_goals first|apply Hold.mk|omega|assumption|skip))
 ((try refine CallT.toA ?_);refine callT_m (.inl ⟨rfl,rfl⟩) (by simp[go_sem]) ?_;intro args ha;simp[go_sem] at ha;subst ha;refine ⟨_, SM, ?_⟩;rintro _ rfl;simp[go_sem];((repeat' (first|(refine ag_false ?_ ?_ ?_;(focus (simp[go_sem, undef];done));(focus (simp[go_sem];done));simp[go_sem])|(refine ag_true ?_ ?_;(focus (simp[go_sem, undef];done));simp[go_sem])|(refine ag_x ?_;simp[go_sem, undef])|intro _|apply And.intro|(apply Yh;clear Yh Y)));all_goals first|apply Hold.mk|omega|assumption|skip))
 ((try refine CallT.toA ?_);refine callT_m (.inl ⟨rfl,rfl⟩) (by simp[go_sem]) ?_;intro args ha;simp[go_sem] at ha;subst ha;refine ⟨_, SP, ?_⟩;rintro _ rfl;simp[go_sem];((repeat' (first|(refine ag_false ?_ ?_ ?_;(focus (simp[go_sem, undef];done));(focus (simp[go_sem];done));simp[go_sem])|(refine ag_true ?_ ?_;(focus (simp[go_sem, undef];done));simp[go_sem])|(refine ag_x ?_;simp[go_sem, undef])|intro _|apply And.intro|(apply Yh;clear Yh Y)));all_goals first|apply Hold.mk|omega|assumption|skip))
 ((try refine CallT.toA ?_);refine callT_m (.inl ⟨rfl,rfl⟩) (by simp[go_sem]) ?_;intro args ha;simp[go_sem] at ha;subst ha;refine ⟨_, TX, ?_⟩;rintro _ rfl;simp[go_sem];((repeat' (first|(refine ag_false ?_ ?_ ?_;(focus (simp[go_sem, undef];done));(focus (simp[go_sem];done));simp[go_sem])|(refine ag_true ?_ ?_;(focus (simp[go_sem, undef];done));simp[go_sem])|(refine ag_x ?_;simp[go_sem, undef])|intro _|apply And.intro|(apply Yh;clear Yh Y)));all_goals first|apply Hold.mk|omega|assumption|skip))
 (refine awp_ret ?_;simp[go_sem])
def choTo (s : Src) (l : List Int) : Nat → List Prs
 | 0 => []
 | i + 1 => match s[i]?, l[i]? with
  | some x, some m => match x.2[unI m % (x.2.length + 1)]? with
   | some v => choTo s l i ++ [(x.1, v.1)]
   | none => choTo s l i
  | _, _ => choTo s l i
def choV (s : Src) (l : List Int) : List Prs := choTo s l (min s.length l.length)
theorem choTo_step {s : Src} {l : List Int} {i : Nat} {x : Gm} {m : Int} (hx : s[i]? = some x) (hm : l[i]? = some m) : choTo s l (i + 1) = (match x.2[unI m % (x.2.length + 1)]? with
  | some v => choTo s l i ++ [(x.1, v.1)]
  | none => choTo s l i) := by
 conv => lhs; unfold choTo
 rw [hx, hm]
theorem cho_to {s : Src} {l : List Int} (hsu : suV s = true) : ∀ {i : Nat}, i ≤ s.length → Cho s i (choTo s l i)
 | 0, _ => cho_zero s
 | i + 1, h => by
  have ih := cho_to (l := l) hsu (i := i) (by omega)
  have hx : s[i]? = some s[i] := List.getElem?_eq_getElem (by omega)
  unfold choTo
  split
  ·rename_i x m hx' hm
   split
   ·rename_i v hv
    exact cho_snoc hsu ih hx' (List.mem_of_getElem? hv)
   ·exact cho_step ih
  ·exact cho_step ih
theorem choV_ok {s : Src} {l : List Int} (hsu : suV s = true) : picksQ s (choV s l) = true ∧ (choV s l).length ≤ 15 := by
 have h := cho_to (l := l) hsu (i := min s.length l.length) (by omega)
 have := h.len
 have := (suV_parts hsu).1
 exact ⟨h.pks, by unfold choV; omega⟩
set_option maxHeartbeats 8000000 in
theorem chosen_exact (s : Src) (l : List Int) (hs : SzS s) (hsu : suV s = true) (hl : l.length ≤ 9223372036854775807) (hi : ∀ x ∈ l, InR x) : PCall Tryz.prog 33 [dSrc s, dIs l] fun r => r = dPs (choV s l) := by 
 refine pcall_of Tryz.func33 rfl rfl Tryz.ntmps33 (rs := [.tmp 4]) (tys := [34]) rfl rfl (by simp) ?_
 obtain ⟨h15, hsg⟩ := suV_parts hsu
 (refine awp_sr fun Y Yh=>?_;simp[go_sem];((repeat' (first|(refine ag_x ?_;simp[go_sem])|intro _|apply And.intro|(apply Yh;clear Yh Y)));all_goals first|apply Hold.mk|omega|assumption|skip))
 refine awp_frzbox 2 rfl rfl ?_
 simp only [go_sem]
 (refine awp_sr fun Y Yh=>?_;simp[go_sem];((repeat' (first|(refine ag_x ?_;simp[go_sem])|intro _|apply And.intro|(apply Yh;clear Yh Y)));all_goals first|apply Hold.mk|omega|assumption|skip))
 refine awp_nilslot 5 900031 41 2 rfl fun g5 => ?_
 simp only [go_sem]
 refine awp_seq_k fun K1 hK1 => ?_
 (refine awp_sr fun Y Yh=>?_;simp[go_sem];((repeat' (first|(refine ag_x ?_;simp[go_sem])|intro _|apply And.intro|(apply Yh;clear Yh Y)));all_goals first|apply Hold.mk|omega|assumption|skip))
 refine awp_block ?_
 refine awp_loop (σ := Nat × Nat) (fun x => ⟨[(1, dIs l), (2, .rd [dGms s]), (5, .own 900031 x.2), (6, dI x.1)], [(900031, (x.2, .row 41 2 ((choTo s l x.1).map cP)))]⟩) (fun x => x.1 ≤ s.length ∧ x.1 ≤ l.length) (fun x => s.length - x.1) (0, g5) ?_ ?_ ?_
 ·(refine cov_of ?_ ?_ <;> simp[go_sem, choTo])
 ·exact ⟨by simp, by simp⟩
 rintro ⟨i, g⟩ ⟨hi0, hi1⟩
 simp only at hi0 hi1
 have hch := cho_to (l := l) hsu hi0
 refine awp_seq_k fun K2 hK2 => ?_
 (refine awp_sr fun Y Yh=>?_;simp[go_sem];((repeat' (first|(refine ag_x ?_;simp[go_sem])|intro _|apply And.intro|(apply Yh;clear Yh Y)));all_goals first|apply Hold.mk|omega|assumption|skip))
 (refine awp_if fun T F hT hF=>?_;simp[go_sem];refine BR.intro (fun h3=>hT ?_) (fun h3=>hF ?_);all_goals clear hT hF T F;try simp at h3)
 ·refine awp_skip ?_
  refine hK2 _ ?_; clear hK2
  obtain ⟨x, hx⟩ : ∃ x, s[i]? = some x := ⟨_, List.getElem?_eq_getElem (by omega)⟩
  obtain ⟨m, hm⟩ : ∃ m, l[i]? = some m := ⟨_, List.getElem?_eq_getElem (by omega)⟩
  have hpl := hch.len
  have h12 := (vuV_parts (hsg x (List.mem_of_getElem? hx)).2).1
  have hst := choTo_step hx hm
  refine awp_seq_k fun K4 hK4 => ?_
  have tl4 : ∀ S' g', Cov S' ⟨[(1, dIs l), (2, .rd [dGms s]), (5, .own 900031 g'), (6, dI i)], [(900031, (g', .row 41 2 ((choTo s l (i + 1)).map cP)))]⟩ → K4 S' := fun S' g' hS => by
   refine hK4 _ ?_; clear hK4
   refine awp_cov hS ?_; clear hS
   (refine awp_r fun Y Yh=>?_;simp[go_sem];((repeat' (first|(refine ag_x ?_;simp[go_sem])|intro _|apply And.intro|(apply Yh;clear Yh Y)));all_goals first|apply Hold.mk|omega|assumption|skip))
   refine ⟨(i + 1, g'), ?_, ⟨by simp only; omega, by have := (List.getElem?_eq_some_iff.1 hm).1; simp only; omega⟩, by simp only; omega⟩
   (refine cov_of ?_ ?_ <;> simp[go_sem])
  clear hK4
  refine awp_block ?_
  have w1 := unI_wrap m
  have w2 := wrapNI (x := x.2.length + 1) (by omega)
  have w2' : IntKind.u64.wrap ((x.2.length : Int) + 1) = (x.2.length : Int) + 1 := by
   rw [show (x.2.length : Int) + 1 = ((x.2.length + 1 : Nat) : Int) by omega]; exact w2
  have hlt : unI m % (x.2.length + 1) < x.2.length + 1 := Nat.mod_lt _ (by omega)
  have hne : ¬ ((x.2.length : Int) + 1) = 0 := by omega
  have m0 : ((unI m : Nat) : Int).tmod ((x.2.length : Int) + 1) = ((unI m % (x.2.length + 1) : Nat) : Int) := by
   rw [show (x.2.length : Int) + 1 = ((x.2.length + 1 : Nat) : Int) by omega]; simp [Int.tmod_eq_emod_of_nonneg]
  generalize hkk : unI m % (x.2.length + 1) = k at *
  (refine awp_sr fun Y Yh=>?_;simp[go_sem, hx];((repeat' (first|(refine ag_x ?_;simp[go_sem, hx])|intro _|apply And.intro|(apply Yh;clear Yh Y)));all_goals first|apply Hold.mk|omega|assumption|skip))
  (refine awp_sr fun Y Yh=>?_;simp[go_sem, hm, w1, w2', m0, hne];((repeat' (first|(refine ag_x ?_;simp[go_sem, hm, w1, w2', m0, hne])|intro _|apply And.intro|(apply Yh;clear Yh Y)));all_goals first|apply Hold.mk|omega|assumption|skip))
  (refine awp_sr fun Y Yh=>?_;simp[go_sem];((repeat' (first|(refine ag_x ?_;simp[go_sem])|intro _|apply And.intro|(apply Yh;clear Yh Y)));all_goals first|apply Hold.mk|omega|assumption|skip))
  (refine awp_if fun T F hT hF=>?_;simp[go_sem];refine BR.intro (fun h5=>hT ?_) (fun h5=>hF ?_);all_goals clear hT hF T F;try simp at h5)
  ·obtain ⟨v, hv⟩ : ∃ v, x.2[k]? = some v := ⟨_, List.getElem?_eq_getElem (by omega)⟩
   ((refine awp_d (.qs [0, 1, 3, 7, 9, 13, 2, 4, 5, 6, 8, 10, 11, 12, 14, 15, 16, 17] (.one 18 (.one 19 (.qs [20] (.nil))))) (by kernel_rfl) ?_ ?_ ?_ ?_);kernel_rfl;exact (by decide +kernel);kernel_rfl;intro Y Yh;((repeat' (first|(refine ag_x ?_;simp[go_sem, hx, hv])|refine adr_nil ?_|((first|refine adr_qs fun Y Yh=>?_|refine adr_y fun Y Yh=>?_);simp[go_sem, hx, hv])|intro _|apply And.intro|(apply Yh;clear Yh Y)));all_goals first|apply Hold.mk|omega|assumption|skip))
   rename_i g1 g2
   rw [hv] at hst
   refine tl4 _ g2 ?_
   rw [hst]
   (refine cov_of ?_ ?_ <;> simp[go_sem])
  ·refine awp_skip ?_
   rw [List.getElem?_eq_none (by omega)] at hst
   refine tl4 _ g ?_
   rw [hst]
   (refine cov_of ?_ ?_ <;> simp[go_sem])
 ·refine awp_exit ?_
  simp only [go_sem]
  refine hK1 _ ?_; clear hK1
  have hmin : min s.length l.length = i := by omega
  have hpl := hch.len
  unfold choV
  rw [hmin]
  (refine awp_sr fun Y Yh=>?_;simp[go_sem];((repeat' (first|(refine ag_x ?_;simp[go_sem])|intro _|apply And.intro|(apply Yh;clear Yh Y)));all_goals first|apply Hold.mk|omega|assumption|skip))
  refine awp_frzrow 4 rfl rfl ?_
  simp only [go_sem]
  (refine awp_ret ?_;simp[go_sem])
set_option maxHeartbeats 32000000 in
theorem resolveAsks_spec (s : Src) (w l : List Prs) (b : Int) (ns wh : List Int) (hs : ZS s) (hw : ZQ w) (hn : ns.length ≤ 9223372036854775807) (hh : wh.length ≤ 9223372036854775807) (hh1 : ∀ x ∈ wh, InR x) : PCall Tryz.prog 10 [.agg [dGms s, dPs w, dPs l, dI b, dIs ns, dIs wh]] fun r => r = dB true := by 
 refine pcall_of Tryz.func10 rfl rfl Tryz.ntmps10 (rs := [.tmp 2]) (tys := [4]) rfl rfl (by simp) ?_
 have G := rGrown_spec ns hn
 (refine awp_sr fun Y Yh=>?_;simp[go_sem];((repeat' (first|(refine ag_x ?_;simp[go_sem])|intro _|apply And.intro|(apply Yh;clear Yh Y)));all_goals first|apply Hold.mk|omega|assumption|skip))
 refine awp_frzbox 1 rfl rfl ?_
 simp only [go_sem]
 refine awp_seq_k fun K1 hK1 => ?_
 have tl : ∀ S', SzS s → SzN w → l.length ≤ 50 → Cov S' ⟨[(1, .rd [dGms s, dPs w, dPs l, dI b, dIs ns, dIs wh])], []⟩ → K1 S' := fun S' hs hw hl hS => by
  refine hK1 _ ?_; clear hK1
  refine awp_cov hS ?_; clear hS
  (refine awp_sr fun Y Yh=>?_;simp[go_sem];((repeat' (first|(refine ag_x ?_;simp[go_sem])|intro _|apply And.intro|(apply Yh;clear Yh Y)));all_goals first|apply Hold.mk|omega|assumption|skip))
  ((try refine CallT.toA ?_);refine callT_m (.inl ⟨rfl,rfl⟩) (by simp[go_sem]) ?_;intro args ha;simp[go_sem] at ha;subst ha;refine ⟨_, G, ?_⟩;rintro _ ⟨s0, w0, hG, rfl⟩;simp[go_sem];((repeat' (first|(refine ag_x ?_;simp[go_sem])|intro _|apply And.intro|(apply Yh;clear Yh Y)));all_goals first|apply Hold.mk|omega|assumption|skip))
  have hsu := grOk_su hG
  have hs0 := suV_sz hsu
  have hw0 := grOk_wz hG
  have B1 := Back_spec s0 hs0
  have B2 := back12_spec w0 hw0.1
  have S2 := rSolve_spec s0 w0 2000 hs0 hw0
  have hq := @solV_len s0 w0 2000
  generalize solV s0 w0 2000 = q at *
  obtain ⟨ql, qn, qe⟩ := q
  simp only at S2 hq
  refine awp_frzbox 3 rfl rfl ?_
  simp only [go_sem]
  (refine awp_sr fun Y Yh=>?_;simp[go_sem];((repeat' (first|(refine ag_x ?_;simp[go_sem])|intro _|apply And.intro|(apply Yh;clear Yh Y)));all_goals first|apply Hold.mk|omega|assumption|skip))
  ((try refine CallT.toA ?_);refine callT_m (.inl ⟨rfl,rfl⟩) (by simp[go_sem]) ?_;intro args ha;simp[go_sem] at ha;subst ha;refine ⟨_, S2, ?_⟩;rintro _ rfl;simp[go_sem];((repeat' (first|(refine ag_x ?_;simp[go_sem])|intro _|apply And.intro|(apply Yh;clear Yh Y)));all_goals first|apply Hold.mk|omega|assumption|skip))
  (refine awp_sr fun Y Yh=>?_;simp[go_sem];((repeat' (first|(refine ag_x ?_;simp[go_sem])|intro _|apply And.intro|(apply Yh;clear Yh Y)));all_goals first|apply Hold.mk|omega|assumption|skip))
  refine awp_nilslot 7 900071 41 2 rfl fun g7 => ?_
  simp only [go_sem]
  refine awp_seq_k fun K6 hK6 => ?_
  (refine awp_sr fun Y Yh=>?_;simp[go_sem];((repeat' (first|(refine ag_x ?_;simp[go_sem])|intro _|apply And.intro|(apply Yh;clear Yh Y)));all_goals first|apply Hold.mk|omega|assumption|skip))
  refine awp_block ?_
  refine awp_loop (σ := Nat × Nat) (fun z => ⟨[(1, .rd [dGms s, dPs w, dPs l, dI b, dIs ns, dIs wh]), (3, .rd [dGms s0]), (4, dPs w0), (5, dPs ql), (6, dI qe), (7, .own 900071 z.2), (8, dI z.1)], [(900071, (z.2, .row 41 2 ((ql.take z.1).map cP)))]⟩) (fun z => z.1 ≤ ql.length) (fun z => ql.length - z.1) (0, g7) ?_ ?_ ?_
  ·(refine cov_of ?_ ?_ <;> simp[go_sem])
  ·simp
  rintro ⟨i, g⟩ hi
  simp only at hi
  refine awp_seq_k fun K7 hK7 => ?_
  have tl7 : ∀ S' g' (m : List Prs), m.length ≤ 16 → Cov S' ⟨[(1, .rd [dGms s, dPs w, dPs l, dI b, dIs ns, dIs wh]), (3, .rd [dGms s0]), (4, dPs w0), (7, .own 900071 g')], [(900071, (g', .row 41 2 (m.map cP)))]⟩ → K6 S' := fun S' g' m hm hS => by
   refine hK6 _ ?_; clear hK6
   refine awp_cov hS ?_; clear hS
   refine awp_frzrow 7 rfl rfl ?_
   simp only [go_sem]
   ((refine awp_dr (.qs [0, 2, 4, 1, 3, 5] (.one 6 (.qs [7, 10, 13, 8, 12, 14] (.kp 9 (.kp 11 (.kp 15 (.kp 16 (.qs [17, 18] (.nb (.qs [21, 23, 19, 24] (.kp 20 (.kp 22 (.kp 25 (.qs [26, 27] (.nb (.qs [30, 32, 28] (.one 29 (.one 31 (.one 33 (.qs [34, 35] (.one 36 (.qs [37, 38] (.nil))))))))))))))))))))))) (by kernel_rfl) ?_ ?_ ?_ ?_);kernel_rfl;exact (by decide +kernel);kernel_rfl;intro Y Yh;((repeat' (first|(refine ag_x ?_;simp[go_sem])|refine adr_nil ?_|((first|refine adr_qs fun Y Yh=>?_|refine adr_y fun Y Yh=>?_);simp[go_sem])|intro _|apply And.intro|(apply Yh;clear Yh Y)));all_goals first|apply Hold.mk|omega|assumption|skip))
   ((try refine CallT.toA ?_);refine callT_m (.inl ⟨rfl,rfl⟩) (by simp[go_sem]) ?_;intro args ha;simp[go_sem] at ha;subst ha;refine ⟨_, (asks_spec s w l hs hw (by omega)), ?_⟩;rintro _ rfl;simp[go_sem];((repeat' (first|(refine ag_x ?_;simp[go_sem])|refine adr_nil ?_|((first|refine adr_qs fun Y Yh=>?_|refine adr_y fun Y Yh=>?_);simp[go_sem])|intro _|apply And.intro|(apply Yh;clear Yh Y)));all_goals first|apply Hold.mk|omega|assumption|skip))
   (refine agc_m (dSrc s0) (.inl ⟨rfl,rfl⟩) (by simp[go_sem]) ?_ ?_;(intro hc args ha;simp[go_sem] at ha;subst ha;exact B1);simp[go_sem];((repeat' (first|(refine ag_x ?_;simp[go_sem])|refine adr_nil ?_|((first|refine adr_qs fun Y Yh=>?_|refine adr_y fun Y Yh=>?_);simp[go_sem])|intro _|apply And.intro|(apply Yh;clear Yh Y)));all_goals first|apply Hold.mk|omega|assumption|skip))
   (refine agc_m (dPs w0) (.inl ⟨rfl,rfl⟩) (by simp[go_sem]) ?_ ?_;(intro hc args ha;simp[go_sem] at ha;subst ha;exact B2);simp[go_sem];((repeat' (first|(refine ag_x ?_;simp[go_sem])|refine adr_nil ?_|((first|refine adr_qs fun Y Yh=>?_|refine adr_y fun Y Yh=>?_);simp[go_sem])|intro _|apply And.intro|(apply Yh;clear Yh Y)));all_goals first|apply Hold.mk|omega|assumption|skip))
   obtain ⟨hch1, hch2⟩ := choV_ok (l := wh) hsu
   have CH := chosen_exact s0 wh hs0 hsu hh hh1
   generalize choV s0 wh = ch at *
   (refine agc_m (dPs ch) (.inl ⟨rfl,rfl⟩) (by simp[go_sem]) ?_ ?_;(intro hc args ha;simp[go_sem] at ha;subst ha;exact CH);simp[go_sem];((repeat' (first|(refine ag_x ?_;simp[go_sem])|refine adr_nil ?_|((first|refine adr_qs fun Y Yh=>?_|refine adr_y fun Y Yh=>?_);simp[go_sem])|intro _|apply And.intro|(apply Yh;clear Yh Y)));all_goals first|apply Hold.mk|omega|assumption|skip))
   (refine agc_f (dB true) (.inl ⟨rfl,rfl⟩) ?_ rfl ?_;(intro hc args ha;simp[go_sem] at ha;subst ha;exact (asks_spec s0 w0 ch hs0 hw0 (by omega)));simp[go_sem];((repeat' (first|(refine ag_x ?_;simp[go_sem])|refine adr_nil ?_|((first|refine adr_qs fun Y Yh=>?_|refine adr_y fun Y Yh=>?_);simp[go_sem])|intro _|apply And.intro|(apply Yh;clear Yh Y)));all_goals first|apply Hold.mk|omega|assumption|skip))
   (refine agc_m (dSrc s0) (.inl ⟨rfl,rfl⟩) (by simp[go_sem]) ?_ ?_;(intro hc args ha;simp[go_sem] at ha;subst ha;exact B1);simp[go_sem];((repeat' (first|(refine ag_x ?_;simp[go_sem])|refine adr_nil ?_|((first|refine adr_qs fun Y Yh=>?_|refine adr_y fun Y Yh=>?_);simp[go_sem])|intro _|apply And.intro|(apply Yh;clear Yh Y)));all_goals first|apply Hold.mk|omega|assumption|skip))
   (refine agc_m (dPs w0) (.inl ⟨rfl,rfl⟩) (by simp[go_sem]) ?_ ?_;(intro hc args ha;simp[go_sem] at ha;subst ha;exact B2);simp[go_sem];((repeat' (first|(refine ag_x ?_;simp[go_sem])|refine adr_nil ?_|((first|refine adr_qs fun Y Yh=>?_|refine adr_y fun Y Yh=>?_);simp[go_sem])|intro _|apply And.intro|(apply Yh;clear Yh Y)));all_goals first|apply Hold.mk|omega|assumption|skip))
   (refine agc_f (dB true) (.inl ⟨rfl,rfl⟩) ?_ rfl ?_;(intro hc args ha;simp[go_sem] at ha;subst ha;exact (asks_spec s0 w0 l hs0 hw0 (by omega)));simp[go_sem];((repeat' (first|(refine ag_x ?_;simp[go_sem])|refine adr_nil ?_|((first|refine adr_qs fun Y Yh=>?_|refine adr_y fun Y Yh=>?_);simp[go_sem])|intro _|apply And.intro|(apply Yh;clear Yh Y)));all_goals first|apply Hold.mk|omega|assumption|skip))
   (refine agc_m (dSrc s0) (.inl ⟨rfl,rfl⟩) (by simp[go_sem]) ?_ ?_;(intro hc args ha;simp[go_sem] at ha;subst ha;exact B1);simp[go_sem];((repeat' (first|(refine ag_x ?_;simp[go_sem])|refine adr_nil ?_|((first|refine adr_qs fun Y Yh=>?_|refine adr_y fun Y Yh=>?_);simp[go_sem])|intro _|apply And.intro|(apply Yh;clear Yh Y)));all_goals first|apply Hold.mk|omega|assumption|skip))
   (refine agc_m (dPs w0) (.inl ⟨rfl,rfl⟩) (by simp[go_sem]) ?_ ?_;(intro hc args ha;simp[go_sem] at ha;subst ha;exact B2);simp[go_sem];((repeat' (first|(refine ag_x ?_;simp[go_sem])|refine adr_nil ?_|((first|refine adr_qs fun Y Yh=>?_|refine adr_y fun Y Yh=>?_);simp[go_sem])|intro _|apply And.intro|(apply Yh;clear Yh Y)));all_goals first|apply Hold.mk|omega|assumption|skip))
   (refine agc_f (dB true) (.inl ⟨rfl,rfl⟩) ?_ rfl ?_;(intro hc args ha;simp[go_sem] at ha;subst ha;exact (asks_spec s0 w0 m hs0 hw0 (by omega)));simp[go_sem];((repeat' (first|(refine ag_x ?_;simp[go_sem])|refine adr_nil ?_|((first|refine adr_qs fun Y Yh=>?_|refine adr_y fun Y Yh=>?_);simp[go_sem])|intro _|apply And.intro|(apply Yh;clear Yh Y)));all_goals first|apply Hold.mk|omega|assumption|skip))
   (refine agc_f (dB true) (.inl ⟨rfl,rfl⟩) ?_ rfl ?_;(intro hc args ha;simp[go_sem] at ha;subst ha;exact sane12_spec);simp[go_sem];((repeat' (first|(refine ag_x ?_;simp[go_sem])|refine adr_nil ?_|((first|refine adr_qs fun Y Yh=>?_|refine adr_y fun Y Yh=>?_);simp[go_sem])|intro _|apply And.intro|(apply Yh;clear Yh Y)));all_goals first|apply Hold.mk|omega|assumption|skip))
   (refine awp_ret ?_;simp[go_sem])
  clear hK6
  have hmt : (ql.take i).length ≤ 16 := by rw [List.length_take]; omega
  by_cases hil : i < ql.length
  ·by_cases he : qe = 0
   ·subst he
    (refine awp_sr fun Y Yh=>?_;simp[go_sem, hil];((repeat' (first|(refine ag_x ?_;simp[go_sem, hil])|intro _|apply And.intro|(apply Yh;clear Yh Y)));all_goals first|apply Hold.mk|omega|assumption|skip))
    (refine awp_if fun T F hT hF=>?_;simp[go_sem, hil];refine hT ?_;clear hT hF T F)
    refine awp_skip ?_
    refine hK7 _ ?_; clear hK7
    obtain ⟨x, hx⟩ : ∃ x, ql[i]? = some x := ⟨_, List.getElem?_eq_getElem hil⟩
    have htk : ql.take (i + 1) = ql.take i ++ [x] := by rw [List.take_add_one, hx]; rfl
    refine awp_seq_k fun K9 hK9 => ?_
    refine awp_block ?_
    ((refine awp_d (.qs [0, 1, 2, 3, 4, 6, 7, 8, 9, 5, 10, 11] (.one 12 (.one 13 (.qs [14] (.nil))))) (by kernel_rfl) ?_ ?_ ?_ ?_);kernel_rfl;exact (by decide +kernel);kernel_rfl;intro Y Yh;((repeat' (first|(refine ag_x ?_;simp[go_sem, hx])|refine adr_nil ?_|((first|refine adr_qs fun Y Yh=>?_|refine adr_y fun Y Yh=>?_);simp[go_sem, hx])|intro _|apply And.intro|(apply Yh;clear Yh Y)));all_goals first|apply Hold.mk|omega|assumption|skip))
    rename_i gq g'
    refine hK9 _ ?_; clear hK9
    (refine awp_r fun Y Yh=>?_;simp[go_sem];((repeat' (first|(refine ag_x ?_;simp[go_sem])|intro _|apply And.intro|(apply Yh;clear Yh Y)));all_goals first|apply Hold.mk|omega|assumption|skip))
    refine ⟨(i + 1, g'), ?_, by simp only; omega, by simp only; omega⟩
    simp only [htk]
    (refine cov_of ?_ ?_ <;> simp[go_sem])
   ·have hei : ¬ (qe : Int) = 0 := by omega
    (refine awp_sr fun Y Yh=>?_;simp[go_sem, hil, hei];((repeat' (first|(refine ag_x ?_;simp[go_sem, hil, hei])|intro _|apply And.intro|(apply Yh;clear Yh Y)));all_goals first|apply Hold.mk|omega|assumption|skip))
    (refine awp_if fun T F hT hF=>?_;simp[go_sem, hil, hei, he];refine hF ?_;clear hT hF T F)
    refine awp_exit ?_
    simp only [go_sem]
    refine tl7 _ g (ql.take i) hmt ?_
    (refine cov_of ?_ ?_ <;> simp[go_sem])
  ·(refine awp_sr fun Y Yh=>?_;simp[go_sem, hil];((repeat' (first|(refine ag_x ?_;simp[go_sem, hil])|intro _|apply And.intro|(apply Yh;clear Yh Y)));all_goals first|apply Hold.mk|omega|assumption|skip))
   (refine awp_if fun T F hT hF=>?_;simp[go_sem, hil];refine hF ?_;clear hT hF T F)
   refine awp_exit ?_
   simp only [go_sem]
   refine tl7 _ g (ql.take i) hmt ?_
   (refine cov_of ?_ ?_ <;> simp[go_sem])
 clear hK1
 (refine awp_sr fun Y Yh=>?_;simp[go_sem];((repeat' (first|(refine ag_false ?_ ?_ ?_;(focus (simp[go_sem, undef];done));(focus (simp[go_sem];done));simp[go_sem])|(refine ag_true ?_ ?_;(focus (simp[go_sem, undef];done));simp[go_sem])|(refine ag_x ?_;simp[go_sem, undef])|intro _|apply And.intro|(apply Yh;clear Yh Y)));all_goals first|apply Hold.mk|omega|assumption|skip))
 (try refine CallT.toA ?_)
 refine callT_m (by first | exact .inl ⟨rfl, rfl⟩ | exact .inr rfl) (by simp [go_sem]) ?_
 intro args ha
 simp [go_sem] at ha
 subst ha
 refine ⟨_, large12_spec s hs, ?_⟩
 rintro _ ⟨bl, hbl, rfl⟩
 cases bl with
 | true =>
  simp [go_sem]
  ((repeat' (first|(refine ag_false ?_ ?_ ?_;(focus (simp[go_sem, undef];done));(focus (simp[go_sem];done));simp[go_sem])|(refine ag_true ?_ ?_;(focus (simp[go_sem, undef];done));simp[go_sem])|(refine ag_x ?_;simp[go_sem, undef])|intro _|apply And.intro|(apply Yh;clear Yh Y)));all_goals first|apply Hold.mk|omega|assumption|skip)
  (refine awp_if fun T F hT hF=>?_;simp[go_sem];refine hT ?_;clear hT hF T F)
  (refine awp_sr fun Y Yh=>?_;simp[go_sem];((repeat' (first|(refine ag_x ?_;simp[go_sem])|intro _|apply And.intro|(apply Yh;clear Yh Y)));all_goals first|apply Hold.mk|omega|assumption|skip))
  ((try refine CallT.toA ?_);refine callT_m (.inl ⟨rfl,rfl⟩) (by simp[go_sem]) ?_;intro args ha;simp[go_sem] at ha;subst ha;refine ⟨_, sane12_spec, ?_⟩;rintro _ rfl;simp[go_sem];((repeat' (first|(refine ag_x ?_;simp[go_sem])|intro _|apply And.intro|(apply Yh;clear Yh Y)));all_goals first|apply Hold.mk|omega|assumption|skip))
  (refine awp_ret ?_;simp[go_sem])
 | false =>
  have hbl := hbl rfl
  simp [go_sem]
  ((repeat' (first|(refine ag_false ?_ ?_ ?_;(focus (simp[go_sem, undef];done));(focus (simp[go_sem];done));simp[go_sem])|(refine ag_true ?_ ?_;(focus (simp[go_sem, undef];done));simp[go_sem])|(refine ag_x ?_;simp[go_sem, undef])|intro _|apply And.intro|(apply Yh;clear Yh Y)));all_goals first|apply Hold.mk|omega|assumption|skip)
  (try refine CallT.toA ?_)
  refine callT_m (by first | exact .inl ⟨rfl, rfl⟩ | exact .inr rfl) (by simp [go_sem]) ?_
  intro args ha
  simp [go_sem] at ha
  subst ha
  refine ⟨_, weight_spec w hw, ?_⟩
  rintro _ ⟨n, hn1, hn2, hn3, rfl⟩
  by_cases hlt : 100 < n
  ·have hlti : (100 : Int) < n := by omega
   simp [go_sem, hlt, hlti]
   ((repeat' (first|(refine ag_false ?_ ?_ ?_;(focus (simp[go_sem, undef, hlt, hlti];done));(focus (simp[go_sem];done));simp[go_sem, hlt, hlti])|(refine ag_true ?_ ?_;(focus (simp[go_sem, undef, hlt, hlti];done));simp[go_sem, hlt, hlti])|(refine ag_x ?_;simp[go_sem, undef, hlt, hlti])|intro _|apply And.intro|(apply Yh;clear Yh Y)));all_goals first|apply Hold.mk|omega|assumption|skip)
   (refine awp_if fun T F hT hF=>?_;simp[go_sem, hlt, hlti];refine hT ?_;clear hT hF T F)
   (refine awp_sr fun Y Yh=>?_;simp[go_sem];((repeat' (first|(refine ag_x ?_;simp[go_sem])|intro _|apply And.intro|(apply Yh;clear Yh Y)));all_goals first|apply Hold.mk|omega|assumption|skip))
   ((try refine CallT.toA ?_);refine callT_m (.inl ⟨rfl,rfl⟩) (by simp[go_sem]) ?_;intro args ha;simp[go_sem] at ha;subst ha;refine ⟨_, sane12_spec, ?_⟩;rintro _ rfl;simp[go_sem];((repeat' (first|(refine ag_x ?_;simp[go_sem])|intro _|apply And.intro|(apply Yh;clear Yh Y)));all_goals first|apply Hold.mk|omega|assumption|skip))
   (refine awp_ret ?_;simp[go_sem])
  ·have hlti : ¬ (100 : Int) < n := by omega
   simp [go_sem, hlt, hlti]
   ((repeat' (first|(refine ag_false ?_ ?_ ?_;(focus (simp[go_sem, undef, hlt, hlti];done));(focus (simp[go_sem];done));simp[go_sem, hlt, hlti])|(refine ag_true ?_ ?_;(focus (simp[go_sem, undef, hlt, hlti];done));simp[go_sem, hlt, hlti])|(refine ag_x ?_;simp[go_sem, undef, hlt, hlti])|intro _|apply And.intro|(apply Yh;clear Yh Y)));all_goals first|apply Hold.mk|omega|assumption|skip)
   by_cases hl5 : 50 < l.length
   ·have hl5i : (50 : Int) < l.length := by omega
    (refine awp_if fun T F hT hF=>?_;simp[go_sem, hl5, hl5i];refine hT ?_;clear hT hF T F)
    (refine awp_sr fun Y Yh=>?_;simp[go_sem];((repeat' (first|(refine ag_x ?_;simp[go_sem])|intro _|apply And.intro|(apply Yh;clear Yh Y)));all_goals first|apply Hold.mk|omega|assumption|skip))
    ((try refine CallT.toA ?_);refine callT_m (.inl ⟨rfl,rfl⟩) (by simp[go_sem]) ?_;intro args ha;simp[go_sem] at ha;subst ha;refine ⟨_, sane12_spec, ?_⟩;rintro _ rfl;simp[go_sem];((repeat' (first|(refine ag_x ?_;simp[go_sem])|intro _|apply And.intro|(apply Yh;clear Yh Y)));all_goals first|apply Hold.mk|omega|assumption|skip))
    (refine awp_ret ?_;simp[go_sem])
   ·have hl5i : ¬ (50 : Int) < l.length := by omega
    (refine awp_if fun T F hT hF=>?_;simp[go_sem, hl5, hl5i];refine hF ?_;clear hT hF T F)
    refine awp_skip ?_
    refine tl _ hbl (hn3 (by omega)) (by omega) ?_
    (refine cov_of ?_ ?_ <;> simp[go_sem])
end Go.Proofs.YteekfnhhlcmcgaaGreatDoor
