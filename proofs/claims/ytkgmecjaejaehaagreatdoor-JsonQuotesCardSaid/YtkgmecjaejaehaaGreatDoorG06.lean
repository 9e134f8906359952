/- Part of a proof: see the last text. -/
import Derived.Test.YtkgmecjaejaehaaGreatDoorG05
import Derived.WalkKit
import Derived.Defers
import Derived.Recover
import Derived.RegionTactic
import Derived.Lib.FrozenHead2
import Derived.Shelf.RegionOpenPlain
set_option linter.unusedVariables false
set_option linter.unusedSimpArgs false
namespace Go.Proofs.YtkgmecjaejaehaaGreatDoor
open Go.RowKit
set_option maxRecDepth 100000
theorem ta_nil (w : World) : (Instr.typeAssert .nilIface 20 74 true).run Tryz.prog w = .ok (.tuple #[.agg #[.int .i64 0, .int .i64 0], .bool false]) w := by kernel_rfl
theorem ta_fail (u : Value) (w : World) : (Instr.typeAssert (.iface 74 u) 20 74 true).run Tryz.prog w = .ok (.tuple #[u, .bool true]) w := by
 unfold Instr.typeAssert
 simp [run_underlying Tryz.underlying74]
set_option maxHeartbeats 1000000 in
theorem clo_ret (p q r : Addr) (w : World) :
  CallsD Tryz.prog 37 #[.pointer (some p), .pointer (some q), .pointer (some r)] .returning w fun e u' w' => e = .returned (.tuple #[]) ∧ u' = .returning ∧ w'.os = w.os ∧ w'.tape = w.tape ∧ w'.output = w.output ∧ w.heap.size ≤ w'.heap.size ∧ ∀ k, k < w.heap.size → w'.heap[k]? = w.heap[k]? := by
 refine callsD_of_wpS Tryz.func37 rfl fun c₀ cs hu => ?_
 have hta := ta_nil
 apply wpS_seq
 apply wpS_region
 simp [wpOpsS, go_sem, recoverD, hu, Tryz.ntmps37, Exit.thenS, hta]
 apply wpS_seq
 apply wpS_region
 simp [wpOpsS, go_sem, Exit.thenS]
 refine wpS_cond (t := false) (by simp [Act.eval, Array.replicate]) ?_
 simp only [Bool.false_eq_true, if_false]
 refine wpS_of_wp (wp_skip ?_)
 cases c₀
 simp_all [bodyPostS, results, Tryz.results37, Exit.thenS]
 exact ⟨rfl, rfl, fun k hk => by rw [Lib.alloc_old w _ k hk]; exact Array.getElem?_eq_getElem hk⟩
set_option maxHeartbeats 2000000 in
theorem clo_pan (b2 b3 b4 : Nat) (T2 T3 T4 : TypeId) (p e : Int) (c0 c1 c2 c3 x y : Value) (w : World) (h2 : w.heap[b2]? = some (.cells #[c0, c1, c2, c3] T2 (0, 0))) (h3 : w.heap[b3]? = some (.cells #[x] T3 (0, 0))) (h4 : w.heap[b4]? = some (.cells #[y] T4 (0, 0))) (h23 : b2 ≠ b3) (h24 : b2 ≠ b4) (h34 : b3 ≠ b4) :
  CallsD Tryz.prog 37 #[.pointer (some ⟨b2, 0, none⟩), .pointer (some ⟨b3, 0, none⟩), .pointer (some ⟨b4, 0, none⟩)] (.panicking [{ v := .iface 74 (.agg #[.int .i64 p, .int .i64 e]), recovered := false }]) w fun en u' w' => en = .returned (.tuple #[]) ∧ settle u' = .returning ∧
   w'.heap[b2]? = some (.cells #[.int .i64 0, .string ⟨#[]⟩, .slice none 0 0, .slice none 0 0] T2 (0, 0)) ∧ w'.heap[b3]? = some (.cells #[.int .i64 p] T3 (0, 0)) ∧ w'.heap[b4]? = some (.cells #[.int .i64 e] T4 (0, 0)) ∧
   w'.os = w.os ∧ w'.tape = w.tape ∧ w'.output = w.output ∧ w.heap.size ≤ w'.heap.size ∧ ∀ k, k < w.heap.size → k ≠ b2 → k ≠ b3 → k ≠ b4 → w'.heap[k]? = w.heap[k]? := by
 refine callsD_of_wpS Tryz.func37 rfl fun c₀ cs hu => ?_
 have hta := ta_fail
 apply wpS_seq
 apply wpS_region
 simp [wpOpsS, go_sem, recoverD, hu, Tryz.ntmps37, Exit.thenS, hta]
 apply wpS_seq
 apply wpS_region
 simp [wpOpsS, go_sem, Exit.thenS]
 refine wpS_cond (t := true) (by simp [Act.eval, Array.replicate]) ?_
 simp only [if_true]
 refine wpS_of_wp ?_
 have hlt : ∀ {b : Nat} {o : Obj}, w.heap[b]? = some o → b < w.heap.size := fun {b o} h => by
  rcases Nat.lt_or_ge b w.heap.size with h' | h'
  ·exact h'
  ·simp [Array.getElem?_eq_none h'] at h
 have l2 := hlt h2
 have l3 := hlt h3
 have l4 := hlt h4
 have g2 : (w.alloc (.cells #[.int .i64 p, .int .i64 e] 74)).heap[b2]? = _ := (Lib.alloc_old w _ b2 l2).trans h2
 have g3 : (w.alloc (.cells #[.int .i64 p, .int .i64 e] 74)).heap[b3]? = _ := (Lib.alloc_old w _ b3 l3).trans h3
 have g4 : (w.alloc (.cells #[.int .i64 p, .int .i64 e] 74)).heap[b4]? = _ := (Lib.alloc_old w _ b4 l4).trans h4
 have gn : (w.alloc (.cells #[.int .i64 p, .int .i64 e] 74)).heap[w.heap.size]? = some (.cells #[.int .i64 p, .int .i64 e] 74 (0, 0)) := heap_alloc_new w _
 have gs : (w.alloc (.cells #[.int .i64 p, .int .i64 e] 74)).heap.size = w.heap.size + 1 := by simp
 have go1 : ∀ k, k < w.heap.size → (w.alloc (.cells #[.int .i64 p, .int .i64 e] 74)).heap[k]? = w.heap[k]? := fun k hk => Lib.alloc_old w _ k hk
 have n2 : b2 ≠ w.heap.size := by omega
 have n3 : b3 ≠ w.heap.size := by omega
 have n4 : b4 ≠ w.heap.size := by omega
 have goE : (w.alloc (.cells #[.int .i64 p, .int .i64 e] 74)).os = w.os ∧ (w.alloc (.cells #[.int .i64 p, .int .i64 e] 74)).tape = w.tape ∧ (w.alloc (.cells #[.int .i64 p, .int .i64 e] 74)).output = w.output := ⟨rfl, rfl, rfl⟩
 generalize hW : w.alloc (.cells #[.int .i64 p, .int .i64 e] 74) = W at *
 generalize hN : w.heap.size = N at *
 clear hW hN
 have k0 : W.cell? ⟨N, 0, none⟩ = some (.int .i64 p) := by rw [Lib.cell_of_heap gn]; rfl
 have k1 : W.cell? ⟨N, 1, none⟩ = some (.int .i64 e) := by rw [Lib.cell_of_heap gn]; rfl
 have a0 : W.cell? ⟨b2, 0, none⟩ = some c0 := by rw [Lib.cell_of_heap g2]; rfl
 have a1 : W.cell? ⟨b2, 1, none⟩ = some c1 := by rw [Lib.cell_of_heap g2]; rfl
 have a2 : W.cell? ⟨b2, 2, none⟩ = some c2 := by rw [Lib.cell_of_heap g2]; rfl
 have a3 : W.cell? ⟨b2, 3, none⟩ = some c3 := by rw [Lib.cell_of_heap g2]; rfl
 have d3 : W.cell? ⟨b3, 0, none⟩ = some x := by rw [Lib.cell_of_heap g3]; rfl
 have d4 : W.cell? ⟨b4, 0, none⟩ = some y := by rw [Lib.cell_of_heap g4]; rfl
 have f2 : ∀ j, W.frozen? ⟨b2, j, none⟩ = false := fun j => Lib.frozen_of_heap g2 j
 have f3 : ∀ j, W.frozen? ⟨b3, j, none⟩ = false := fun j => Lib.frozen_of_heap g3 j
 have f4 : ∀ j, W.frozen? ⟨b4, j, none⟩ = false := fun j => Lib.frozen_of_heap g4 j
 have mixed : Tryz.prog.follows .mixedOrders = true := by kernel_rfl
 simp [Array.replicate]
 go_region
 all_goals
  simp [bodyPostS, results, Tryz.results37, Exit.thenS, settle]
  have s0 := heap_setCell_same W b2 0 _ _ (.int .i64 0) g2
  have s1 := heap_setCell_same _ b2 1 _ _ (.string ⟨#[]⟩) s0
  have s2 := heap_setCell_same _ b2 2 _ _ (.slice none 0 0) s1
  have s3 := heap_setCell_same _ b2 3 _ _ (.slice none 0 0) s2
  have ot : ∀ k, k ≠ b2 → ((((W.setCell ⟨b2, 0, none⟩ (.int .i64 0)).setCell ⟨b2, 1, none⟩ (.string ⟨#[]⟩)).setCell ⟨b2, 2, none⟩ (.slice none 0 0)).setCell ⟨b2, 3, none⟩ (.slice none 0 0)).heap[k]? = W.heap[k]? := fun k hk => by
   rw [heap_setCell_other _ _ _ _ hk, heap_setCell_other _ _ _ _ hk, heap_setCell_other _ _ _ _ hk, heap_setCell_other _ _ _ _ hk]
  have oz : ((((W.setCell ⟨b2, 0, none⟩ (.int .i64 0)).setCell ⟨b2, 1, none⟩ (.string ⟨#[]⟩)).setCell ⟨b2, 2, none⟩ (.slice none 0 0)).setCell ⟨b2, 3, none⟩ (.slice none 0 0)).heap.size = W.heap.size := by simp
  have oe : ((((W.setCell ⟨b2, 0, none⟩ (.int .i64 0)).setCell ⟨b2, 1, none⟩ (.string ⟨#[]⟩)).setCell ⟨b2, 2, none⟩ (.slice none 0 0)).setCell ⟨b2, 3, none⟩ (.slice none 0 0)).os = W.os ∧
   ((((W.setCell ⟨b2, 0, none⟩ (.int .i64 0)).setCell ⟨b2, 1, none⟩ (.string ⟨#[]⟩)).setCell ⟨b2, 2, none⟩ (.slice none 0 0)).setCell ⟨b2, 3, none⟩ (.slice none 0 0)).tape = W.tape ∧
   ((((W.setCell ⟨b2, 0, none⟩ (.int .i64 0)).setCell ⟨b2, 1, none⟩ (.string ⟨#[]⟩)).setCell ⟨b2, 2, none⟩ (.slice none 0 0)).setCell ⟨b2, 3, none⟩ (.slice none 0 0)).output = W.output := ⟨rfl, rfl, rfl⟩
  generalize (((W.setCell ⟨b2, 0, none⟩ (.int .i64 0)).setCell ⟨b2, 1, none⟩ (.string ⟨#[]⟩)).setCell ⟨b2, 2, none⟩ (.slice none 0 0)).setCell ⟨b2, 3, none⟩ (.slice none 0 0) = V at s3 ot oz oe ⊢
  have t3 := heap_setCell_same V b3 0 _ _ (.int .i64 p) ((ot b3 (Ne.symm h23)).trans g3)
  have t4 := heap_setCell_same (V.setCell ⟨b3, 0, none⟩ (.int .i64 p)) b4 0 _ _ (.int .i64 e) ((heap_setCell_other _ ⟨b3, 0, none⟩ _ _ (Ne.symm h34)).trans ((ot b4 (Ne.symm h24)).trans g4))
  refine ⟨(heap_setCell_other _ ⟨b4, 0, none⟩ _ _ h24).trans ((heap_setCell_other _ ⟨b3, 0, none⟩ _ _ h23).trans s3), (heap_setCell_other _ ⟨b4, 0, none⟩ _ _ h34).trans t3, t4, ?_⟩
  have last : ∀ k, k < N → ¬ k = b2 → ¬ k = b3 → ¬ k = b4 → (((V.setCell ⟨b3, 0, none⟩ (.int .i64 p)).setCell ⟨b4, 0, none⟩ (.int .i64 e)).drew).heap[k]? = w.heap[k]? := fun k hk hk2 hk3 hk4 =>
   (heap_setCell_other _ ⟨b4, 0, none⟩ _ _ hk4).trans ((heap_setCell_other _ ⟨b3, 0, none⟩ _ _ hk3).trans ((ot k hk2).trans (go1 k hk)))
  have sz : N ≤ (((V.setCell ⟨b3, 0, none⟩ (.int .i64 p)).setCell ⟨b4, 0, none⟩ (.int .i64 e)).drew).heap.size := by
   have : (((V.setCell ⟨b3, 0, none⟩ (.int .i64 p)).setCell ⟨b4, 0, none⟩ (.int .i64 e)).drew).heap.size = V.heap.size := by
    show ((V.setCell ⟨b3, 0, none⟩ (.int .i64 p)).setCell ⟨b4, 0, none⟩ (.int .i64 e)).heap.size = V.heap.size
    simp
   omega
  repeat' (first | exact goE.2.1 | exact goE.1 | exact goE.2.2 | omega | exact oe.1.trans goE.1 | exact oe.2.1.trans goE.2.1 | exact oe.2.2.trans goE.2.2 | exact sz | exact last | refine And.intro ?_ ?_)
end Go.Proofs.YtkgmecjaejaehaaGreatDoor
namespace Go.Proofs.YtkgmecjaejaehaaGreatDoor
open Go.Eng Go.Js
set_option maxRecDepth 20000
attribute [local irreducible] AG CallA CallT AWp PCall ACall AgC
theorem conc74 : Tryz.prog.concrete 74 = true := by kernel_rfl
theorem rep2 {C : Ctx} {w : World} {x y : Value} {u : Value} (h : Rep C w (.agg [.v x, .v y]) u) : u = .agg #[x, y] := by
 cases h with
 | agg _ us hn hh =>
  have h2 : us.size = 2 := by simpa using hn
  have e0 := (hh 0 (.v x) us[0] rfl (Array.getElem?_eq_getElem (by omega))).v_inv
  have e1 := (hh 1 (.v y) us[1] rfl (Array.getElem?_eq_getElem (by omega))).v_inv
  congr 1
  apply Array.ext (by simpa using h2)
  intro i h3 h4
  have : i = 0 ∨ i = 1 := by omega
  rcases this with rfl | rfl
  ·simpa using e0
  ·simpa using e1
theorem fail_spec (g : Nat) (s : Bs) (a n at' : Nat) (hs : s.length ≤ 9223372036854775807) : XCall Tryz.prog 40 [pR g, dI at'] (rdE g s a n) [900002] (fun _ _ => False) (fun ch => ch = fP (failP s at') (failE s at')) := by
 refine xcall_of Tryz.func40 rfl rfl Tryz.ntmps40 (rs := []) (tys := []) rfl rfl (by simp) (by simp [notFroz]) fun hp hpan => ?_
 refine awp_seq_k fun K1 hK1 => ?_
 (refine awp_sr fun Y Yh => ?_; simp [go_sem]; ((repeat' (first|(refine ag_x ?_;simp [go_sem])|intro _|apply And.intro|(apply Yh;clear Yh Y)));all_goals first|apply Hold.mk|omega|with_reducible assumption|skip))
 (refine awp_if fun T F hT hF => ?_; simp [go_sem]; refine BR.intro (fun h2 => hT ?_) (fun h2 => hF ?_); all_goals clear hT hF T F; try simp at h2)
 ·refine awp_ags ?_
  simp only [AGs]
  refine ag_true rfl ?_
  simp [go_sem]
  refine ag_true rfl ?_
  simp [go_sem]
  refine ag_true rfl ?_
  simp [go_sem]
  refine ag_true rfl ?_
  simp [go_sem]
  refine ag_true rfl ?_
  simp [go_sem]
  refine ag_true rfl ?_
  simp [go_sem]
  refine ag_mkifc (by simp [dstOk]) conc74 ?_
  simp [go_sem]
  refine ag_panic ?_
  simp [go_sem]
  refine ⟨74, _, ⟨rfl, rfl⟩, fun C w u hu => ?_⟩
  rw [rep2 hu]
  refine hpan _ ?_
  simp [fP, failP, failE, h2]
 ·refine awp_skip ?_
  refine hK1 _ ?_; clear hK1
  refine awp_ags ?_
  simp only [AGs]
  refine ag_true rfl ?_
  simp [go_sem]
  refine ag_true rfl ?_
  simp [go_sem]
  refine ag_mkifc (by simp [dstOk]) conc74 ?_
  simp [go_sem]
  refine ag_panic ?_
  simp [go_sem]
  refine ⟨74, _, ⟨rfl, rfl⟩, fun C w u hu => ?_⟩
  rw [rep2 hu]
  refine hpan _ ?_
  simp [fP, failP, failE, show ¬ s.length ≤ at' by omega]
end Go.Proofs.YtkgmecjaejaehaaGreatDoor
namespace Go.Proofs.YtkgmecjaejaehaaGreatDoor
open Go.Eng Go.Js
set_option maxRecDepth 20000
attribute [local irreducible] AG CallA CallT AWp PCall ACall XCall AgC
set_option maxHeartbeats 2000000 in
theorem blanks_spec (g : Nat) (s : Bs) (a n : Nat) (hl : s.length ≤ 9223372036854775807) (ha : a ≤ s.length) : ACall Tryz.prog 39 [pR g] (rdE g s a n) [900002] (fun ps _ => ps = [(g, .box [dS s, dI (blV s a), dI n])]) := by
 refine acall_of Tryz.func39 rfl rfl Tryz.ntmps39 (rs := []) (tys := []) rfl rfl (by simp) (by simp [notFroz]) ?_
 refine awp_block ?_
 refine awp_loop (σ := Nat) (fun b => ⟨[(0, pR g)], rdE g s b n⟩) (fun b => b ≤ s.length ∧ blV s b = blV s a) (fun b => s.length - b) a ?_ ⟨ha, rfl⟩ ?_
 ·(refine cov_of ?_ ?_ <;> simp [go_sem])
 rintro b ⟨hb, he⟩
 refine awp_seq_k fun K1 hK1 => ?_
 by_cases hlt : b < s.length
 ·have h1 : (b : Int) < s.length := by omega
  ((refine awp_dr (.qs [0, 1, 2, 4, 5, 6, 3, 7, 8, 9, 10, 11, 12, 13, 15, 16, 17, 14, 18, 19] (.one 20 (.qs [21, 22] (.nil)))) (by kernel_rfl) ?_ ?_ ?_ ?_); (kernel_rfl); (exact (by decide +kernel)); (kernel_rfl); intro Y Yh; ((repeat' (first|(refine ag_x ?_;simp [go_sem, h1, hlt])|refine adr_nil ?_|((first|refine adr_qs fun Y Yh=>?_|refine adr_y fun Y Yh=>?_);simp [go_sem, h1, hlt])|intro _|apply And.intro|(apply Yh;clear Yh Y)));all_goals first|apply Hold.mk|omega|with_reducible assumption|skip))
  (refine agc_f (dI (idxV [32, 9, 10, 13] s[b])) (by first|exact .inl ⟨rfl,rfl⟩|exact .inr rfl) ?_ rfl ?_; (intro hc args ha; simp [go_sem] at ha; subst ha; exact (idxB_spec _ _)); simp [go_sem, h1, hlt]; ((repeat' (first|(refine ag_x ?_;simp [go_sem, h1, hlt])|refine adr_nil ?_|((first|refine adr_qs fun Y Yh=>?_|refine adr_y fun Y Yh=>?_);simp [go_sem, h1, hlt])|intro _|apply And.intro|(apply Yh;clear Yh Y)));all_goals first|apply Hold.mk|omega|with_reducible assumption|skip))
  (refine awp_if fun T F hT hF => ?_; simp [go_sem]; refine BR.intro (fun h2 => hT ?_) (fun h2 => hF ?_); all_goals clear hT hF T F; try simp at h2)
  ·have h3 := (idx_blank s[b]).1 h2
   refine awp_skip ?_
   refine hK1 _ ?_; clear hK1
   refine awp_block ?_
   (refine awp_r fun Y Yh => ?_; simp [go_sem]; ((repeat' (first|(refine ag_x ?_;simp [go_sem])|intro _|apply And.intro|(apply Yh;clear Yh Y)));all_goals first|apply Hold.mk|omega|with_reducible assumption|skip))
   refine ⟨b + 1, ?_, ⟨by omega, by rw [← he, blV_step hlt h3]⟩, by omega⟩
   (refine cov_of ?_ ?_ <;> simp [go_sem])
  ·have h3 : isBl s[b] = false := by
    cases h : isBl s[b] with
    | false => rfl
    | true => have := (idx_blank s[b]).2 h; omega
   have : blV s a = b := by rw [← he, blV_stop hlt h3]
   refine awp_exit ?_
   simp [go_sem, retA, this]
 ·have h1 : ¬ (b : Int) < s.length := by omega
  ((refine awp_dr (.qs [0, 1, 2, 4, 5, 6, 3, 7, 8, 9, 10] (.sk 11 (.sk 12 (.sk 13 (.sk 15 (.sk 16 (.sk 17 (.sk 14 (.sk 18 (.sk 19 (.sk 20 (.sk 21 (.qs [22] .nil))))))))))))) (by kernel_rfl) ?_ ?_ ?_ ?_); (kernel_rfl); (exact (by decide +kernel)); (kernel_rfl); intro Y Yh; ((repeat' (first|(refine ag_x ?_;simp [go_sem, h1, hlt])|refine adr_nil ?_|((first|refine adr_qs fun Y Yh=>?_|refine adr_y fun Y Yh=>?_);simp [go_sem, h1, hlt])|intro _|apply And.intro|(apply Yh;clear Yh Y)));all_goals first|apply Hold.mk|omega|with_reducible assumption|skip))
  refine awp_if fun T F hT hF => ?_
  simp [go_sem]
  refine hF ?_
  refine awp_exit ?_
  have : blV s a = b := by rw [← he, blV_end (by omega)]
  simp [go_sem, retA, this]
theorem peek_spec (g : Nat) (s : Bs) (a n : Nat) (hl : s.length ≤ 9223372036854775807) (ha : a ≤ s.length) : XCall Tryz.prog 76 [pR g] (rdE g s a n) [900002]
  (fun ps r => ∃ c, s[blV s a]? = some c ∧ r = dU c ∧ ps = [(g, .box [dS s, dI (blV s a), dI n])]) (fun ch => s.length ≤ blV s a ∧ ch = fP s.length 14) := by
 refine xcall_of Tryz.func76 rfl rfl Tryz.ntmps76 (rs := [.tmp 2]) (tys := [5]) rfl rfl (by simp) (by simp [notFroz]) fun hp hpan => ?_
 have hb := blV_le (s := s) ha
 (refine awp_sr fun Y Yh => ?_; simp [go_sem]; ((repeat' (first|(refine ag_x ?_;simp [go_sem])|intro _|apply And.intro|(apply Yh;clear Yh Y)));all_goals first|apply Hold.mk|omega|with_reducible assumption|skip))
 (refine awp_sr fun Y Yh => ?_; simp [go_sem]; ((repeat' (first|(refine ag_x ?_;simp [go_sem])|intro _|apply And.intro|(apply Yh;clear Yh Y)));all_goals first|apply Hold.mk|omega|with_reducible assumption|skip))
 (refine callA_l [900002] (by first|exact .inl ⟨rfl,rfl⟩|exact .inr rfl) (by simp [go_sem]) ?_; intro args ha; simp [go_sem] at ha; subst ha; refine ⟨_, _, (blanks_spec g s a n hl ha), (by simp [go_sem]), ?_⟩; rintro ps r hps rfl; simp [go_sem]; ((repeat' (first|(refine ag_x ?_;simp [go_sem])|intro _|apply And.intro|(apply Yh;clear Yh Y)));all_goals first|apply Hold.mk|omega|with_reducible assumption|skip))
 refine awp_seq_k fun K1 hK1 => ?_
 ((refine awp_dr (.qs [0, 1, 2, 4, 5, 6, 3, 7, 8, 9] (.nil)) (by kernel_rfl) ?_ ?_ ?_ ?_); (kernel_rfl); (exact (by decide +kernel)); (kernel_rfl); intro Y Yh; ((repeat' (first|(refine ag_x ?_;simp [go_sem])|refine adr_nil ?_|((first|refine adr_qs fun Y Yh=>?_|refine adr_y fun Y Yh=>?_);simp [go_sem])|intro _|apply And.intro|(apply Yh;clear Yh Y)));all_goals first|apply Hold.mk|omega|with_reducible assumption|skip))
 (refine awp_if fun T F hT hF => ?_; simp [go_sem]; refine BR.intro (fun h2 => hT ?_) (fun h2 => hF ?_); all_goals clear hT hF T F; try simp at h2)
 ·(refine awp_r fun Y Yh => ?_; simp [go_sem]; ((repeat' (first|(refine ag_x ?_;simp [go_sem])|intro _|apply And.intro|(apply Yh;clear Yh Y)));all_goals first|apply Hold.mk|omega|with_reducible assumption|skip))
  (refine callA_x [900002] (by first|exact .inl ⟨rfl,rfl⟩|exact .inr rfl) (by simp [go_sem]) ?_; intro args ha; simp [go_sem] at ha; subst ha; exact ⟨_, _, _, (fail_spec g s (blV s a) n (blV s a) hl), (by simp [go_sem]), (fun ch h => hpan _ ⟨h2, by rw [h]; simp [failP, failE, h2]⟩), fun _ _ _ h => h.elim⟩)
 ·refine awp_skip ?_
  refine hK1 _ ?_; clear hK1
  have hc : s[blV s a]? = some (s[blV s a]'(by omega)) := List.getElem?_eq_getElem (by omega)
  ((refine awp_dr (.qs [0, 1, 2, 4, 5, 6, 3, 7, 8, 9] (.nil)) (by kernel_rfl) ?_ ?_ ?_ ?_); (kernel_rfl); (exact (by decide +kernel)); (kernel_rfl); intro Y Yh; ((repeat' (first|(refine ag_x ?_;simp [go_sem, hc])|refine adr_nil ?_|((first|refine adr_qs fun Y Yh=>?_|refine adr_y fun Y Yh=>?_);simp [go_sem, hc])|intro _|apply And.intro|(apply Yh;clear Yh Y)));all_goals first|apply Hold.mk|omega|with_reducible assumption|skip))
  (refine awp_ret ?_; simp [go_sem, retA])
  exact ⟨_, hc, rfl⟩
theorem want_spec (g : Nat) (s : Bs) (a n : Nat) (c : UInt8) (hl : s.length ≤ 9223372036854775807) (ha : a ≤ s.length) : XCall Tryz.prog 131 [pR g, dU c] (rdE g s a n) [900002]
  (fun ps _ => s[blV s a]? = some c ∧ ps = [(g, .box [dS s, dI ((blV s a + 1 : Nat) : Int), dI n])])
  (fun ch => s[blV s a]? ≠ some c ∧ ch = fP (failP s (blV s a)) (failE s (blV s a))) := by
 refine xcall_of Tryz.func131 rfl rfl Tryz.ntmps131 (rs := []) (tys := []) rfl rfl (by simp) (by simp [notFroz]) fun hp hpan => ?_
 have hb := blV_le (s := s) ha
 refine awp_seq_k fun K1 hK1 => ?_
 (refine awp_sr fun Y Yh => ?_; simp [go_sem]; ((repeat' (first|(refine ag_x ?_;simp [go_sem])|intro _|apply And.intro|(apply Yh;clear Yh Y)));all_goals first|apply Hold.mk|omega|with_reducible assumption|skip))
 (refine callA_x [900002] (by first|exact .inl ⟨rfl,rfl⟩|exact .inr rfl) (by simp [go_sem]) ?_; intro args ha; simp [go_sem] at ha; subst ha; refine ⟨_, _, _, (peek_spec g s a n hl ha), (by simp [go_sem]), (fun ch h => hpan _ ⟨by rw [List.getElem?_eq_none h.1]; simp, by rw [h.2]; simp [failP, failE, h.1]⟩), ?_⟩; rintro ps r hps ⟨d, hd, rfl, rfl⟩; simp [go_sem]; ((repeat' (first|(refine ag_x ?_;simp [go_sem])|intro _|apply And.intro|(apply Yh;clear Yh Y)));all_goals first|apply Hold.mk|omega|with_reducible assumption|skip))
 have hlt := get_lt hd
 (refine awp_if fun T F hT hF => ?_; simp [go_sem]; refine BR.intro (fun h2 => hT ?_) (fun h2 => hF ?_); all_goals clear hT hF T F; try simp at h2)
 ·(refine awp_r fun Y Yh => ?_; simp [go_sem]; ((repeat' (first|(refine ag_x ?_;simp [go_sem])|intro _|apply And.intro|(apply Yh;clear Yh Y)));all_goals first|apply Hold.mk|omega|with_reducible assumption|skip))
  (refine callA_x [900002] (by first|exact .inl ⟨rfl,rfl⟩|exact .inr rfl) (by simp [go_sem]) ?_; intro args ha; simp [go_sem] at ha; subst ha; exact ⟨_, _, _, (fail_spec g s (blV s a) n (blV s a) hl), (by simp [go_sem]), (fun ch h => hpan _ ⟨fun q => h2 (by rw [hd] at q; cases q; rfl), h⟩), fun _ _ _ h => h.elim⟩)
 ·refine awp_skip ?_
  refine hK1 _ ?_; clear hK1
  (refine awp_r fun Y Yh => ?_; simp [go_sem]; ((repeat' (first|(refine ag_x ?_;simp [go_sem])|intro _|apply And.intro|(apply Yh;clear Yh Y)));all_goals first|apply Hold.mk|omega|with_reducible assumption|skip))
  simp [retA, go_sem]
  rw [hd, UInt8.toNat_inj.1 h2]
theorem dg_iff (c : UInt8) : isDg c = true ↔ (48 : Int) ≤ c.toNat ∧ (c.toNat : Int) ≤ 57 := by
 unfold isDg
 simp only [Bool.and_eq_true, decide_eq_true_eq, UInt8.le_iff_toNat_le]
 have e1 : (48 : UInt8).toNat = 48 := rfl
 have e2 : (57 : UInt8).toNat = 57 := rfl
 omega
set_option maxHeartbeats 2000000 in
theorem digits_spec (g : Nat) (t : Bs) (i : Nat) (hl : t.length ≤ 9223372036854775807) (hi : i ≤ t.length) : ACall Tryz.prog 173 [.ptr 900003 g 0, .rd [dS t]] [(900003, (g, .box [dI i]))] [900003] (fun ps r => r = dB (decide (i < digE t i)) ∧ ps = [(g, .box [dI (digE t i)])]) := by
 refine acall_of Tryz.func173 rfl rfl Tryz.ntmps173 (rs := [.tmp 2]) (tys := [4]) rfl rfl (by simp) (by simp [notFroz]) ?_
 have hge := digE_ge t i
 have hle := digE_le hi
 (refine awp_sr fun Y Yh => ?_; simp [go_sem]; ((repeat' (first|(refine ag_x ?_;simp [go_sem])|intro _|apply And.intro|(apply Yh;clear Yh Y)));all_goals first|apply Hold.mk|omega|with_reducible assumption|skip))
 (refine awp_sr fun Y Yh => ?_; simp [go_sem]; ((repeat' (first|(refine ag_x ?_;simp [go_sem])|intro _|apply And.intro|(apply Yh;clear Yh Y)));all_goals first|apply Hold.mk|omega|with_reducible assumption|skip))
 refine awp_seq_k fun K1 hK1 => ?_
 refine awp_block ?_
 refine awp_loop (σ := Nat) (fun x => ⟨[(0, .ptr 900003 g 0), (1, .rd [dS t]), (3, dI i)], [(900003, (g, .box [dI x]))]⟩) (fun x => x ≤ t.length ∧ digE t x = digE t i) (fun x => t.length - x) i ?_ ⟨hi, rfl⟩ ?_
 ·(refine cov_of ?_ ?_ <;> simp [go_sem])
 rintro x ⟨hx, he⟩
 refine awp_seq_k fun K2 hK2 => ?_
 have stop : digE t i = x → ∀ S' : St, (Cov S' ⟨[(0, .ptr 900003 g 0), (1, .rd [dS t]), (3, dI i)], [(900003, (g, .box [dI x]))]⟩) → K1 S' := fun h S' hS => by
  refine hK1 _ ?_; clear hK1
  refine awp_cov hS ?_; clear hS
  (refine awp_sr fun Y Yh => ?_; simp [go_sem]; ((repeat' (first|(refine ag_x ?_;simp [go_sem])|intro _|apply And.intro|(apply Yh;clear Yh Y)));all_goals first|apply Hold.mk|omega|with_reducible assumption|skip))
  (refine awp_ret ?_; simp [go_sem, retA])
  simp [h]
 by_cases hlt : x < t.length
 ·have h1 : (x : Int) < t.length := by omega
  have hg : t[x]? = some t[x] := List.getElem?_eq_getElem hlt
  by_cases hc : (48 : Int) ≤ t[x].toNat
  ·(refine awp_sr fun Y Yh => ?_; simp [go_sem, h1, hlt, hg, hc]; ((repeat' (first|(refine ag_false ?_ ?_ ?_;(focus (simp [go_sem, undef, h1, hlt, hg, hc];done));(focus (simp [go_sem];done));simp [go_sem, h1, hlt, hg, hc])|(refine ag_x ?_;simp [go_sem, undef, h1, hlt, hg, hc])|intro _|apply And.intro|(apply Yh;clear Yh Y)));all_goals first|apply Hold.mk|omega|with_reducible assumption|skip))
   (refine awp_if fun T F hT hF => ?_; simp [go_sem, h1, hlt, hg, hc]; refine BR.intro (fun h3 => hT ?_) (fun h3 => hF ?_); all_goals clear hT hF T F; try simp at h3)
   ·have hd : isDg t[x] = true := (dg_iff _).2 ⟨hc, by omega⟩
    refine awp_skip ?_
    refine hK2 _ ?_; clear hK2
    refine awp_block ?_
    (refine awp_r fun Y Yh => ?_; simp [go_sem]; ((repeat' (first|(refine ag_x ?_;simp [go_sem])|intro _|apply And.intro|(apply Yh;clear Yh Y)));all_goals first|apply Hold.mk|omega|with_reducible assumption|skip))
    refine ⟨x + 1, ?_, ⟨by omega, by rw [← he, digE_step hlt hd]⟩, by omega⟩
    (refine cov_of ?_ ?_ <;> simp [go_sem])
   ·have hd : isDg t[x] = false := by
     cases h : isDg t[x] with
     | false => rfl
     | true => have := (dg_iff _).1 h; omega
    refine awp_exit ?_
    simp only [go_sem]
    refine stop (by rw [← he, digE_stop hlt hd]) _ ?_
    (refine cov_of ?_ ?_ <;> simp [go_sem])
  ·have hd : isDg t[x] = false := by
    cases h : isDg t[x] with
    | false => rfl
    | true => have := (dg_iff _).1 h; omega
   (refine awp_sr fun Y Yh => ?_; simp [go_sem, h1, hlt, hg, hc]; ((repeat' (first|(refine ag_false ?_ ?_ ?_;(focus (simp [go_sem, undef, h1, hlt, hg, hc];done));(focus (simp [go_sem];done));simp [go_sem, h1, hlt, hg, hc])|(refine ag_x ?_;simp [go_sem, undef, h1, hlt, hg, hc])|intro _|apply And.intro|(apply Yh;clear Yh Y)));all_goals first|apply Hold.mk|omega|with_reducible assumption|skip))
   (refine awp_if fun T F hT hF => ?_; simp [go_sem]; refine hF ?_; clear hT hF T F)
   refine awp_exit ?_
   simp only [go_sem]
   refine stop (by rw [← he, digE_stop hlt hd]) _ ?_
   (refine cov_of ?_ ?_ <;> simp [go_sem])
 ·have h1 : ¬ (x : Int) < t.length := by omega
  (refine awp_sr fun Y Yh => ?_; simp [go_sem, h1, hlt]; ((repeat' (first|(refine ag_false ?_ ?_ ?_;(focus (simp [go_sem, undef, h1, hlt];done));(focus (simp [go_sem];done));simp [go_sem, h1, hlt])|(refine ag_x ?_;simp [go_sem, undef, h1, hlt])|intro _|apply And.intro|(apply Yh;clear Yh Y)));all_goals first|apply Hold.mk|omega|with_reducible assumption|skip))
  (refine awp_if fun T F hT hF => ?_; simp [go_sem]; refine hF ?_; clear hT hF T F)
  refine awp_exit ?_
  simp only [go_sem]
  refine stop (by rw [← he, digE_end (by omega)]) _ ?_
  (refine cov_of ?_ ?_ <;> simp [go_sem])
set_option maxHeartbeats 4000000 in
theorem numEnd_spec (t : Bs) (hl : t.length ≤ 4611686018427387904) : PCall Tryz.prog 132 [dS t] fun r => r = .tup [dI (numV t).1, dI (stkI (numV t).2)] := by
 refine pcall_of Tryz.func132 rfl rfl Tryz.ntmps132 (rs := [.cell 2 3, .tmp 3]) (tys := [3, 3]) rfl rfl (by simp) ?_
 rw [numV_eq]
 have hl2 : t.length ≤ 9223372036854775807 := by omega
 (refine awp_sr fun Y Yh => ?_; simp [go_sem]; ((repeat' (first|(refine ag_x ?_;simp [go_sem])|intro _|apply And.intro|(apply Yh;clear Yh Y)));all_goals first|apply Hold.mk|omega|with_reducible assumption|skip))
 refine awp_frzbox 1 rfl rfl ?_
 refine awp_renbox 2 900003 rfl rfl (by decide) fun gn => ?_
 simp only [go_sem]
 (refine awp_sr fun Y Yh => ?_; simp [go_sem]; ((repeat' (first|(refine ag_x ?_;simp [go_sem])|intro _|apply And.intro|(apply Yh;clear Yh Y)));all_goals first|apply Hold.mk|omega|with_reducible assumption|skip))
 generalize hf : (if t[0]? = some 45 then 1 else 0) = f
 have hfl : f ≤ t.length := by
  subst hf; split
  ·rename_i h; exact get_lt h
  ·omega
 refine awp_seq_k fun K1 hK1 => ?_
 have tl1 : ∀ S', Cov S' ⟨[(1, .rd [dS t]), (2, .ptr 900003 gn 0), (4, .fn 173 [.ptr 900003 gn 0, .rd [dS t]])], [(900003, (gn, .box [dI f]))]⟩ → K1 S' := fun S' hS => by
  refine hK1 _ ?_; clear hK1
  refine awp_cov hS ?_; clear hS
  have hge := digE_ge t f
  have hle := digE_le hfl
  unfold numG
  generalize hn : digE t f = n at hge hle ⊢
  (refine awp_sr fun Y Yh => ?_; simp [go_sem]; ((repeat' (first|(refine ag_x ?_;simp [go_sem])|intro _|apply And.intro|(apply Yh;clear Yh Y)));all_goals first|apply Hold.mk|omega|with_reducible assumption|skip))
  refine awp_seq_k fun K2 hK2 => ?_
  (refine awp_sr fun Y Yh => ?_; simp [go_sem]; ((repeat' (first|(refine ag_x ?_;simp [go_sem])|intro _|apply And.intro|(apply Yh;clear Yh Y)));all_goals first|apply Hold.mk|omega|with_reducible assumption|skip))
  (refine callA_l [900003] (by first|exact .inl ⟨rfl,rfl⟩|exact .inr rfl) (by simp [go_sem]) ?_; intro args ha; simp [go_sem] at ha; subst ha; refine ⟨_, _, (digits_spec gn t f hl2 hfl), (by simp [go_sem, hn]), ?_⟩; rintro ps r hps ⟨rfl, rfl⟩; simp [go_sem, hn]; ((repeat' (first|(refine ag_x ?_;simp [go_sem, hn])|intro _|apply And.intro|(apply Yh;clear Yh Y)));all_goals first|apply Hold.mk|omega|with_reducible assumption|skip))
  (refine awp_if fun T F hT hF => ?_; simp [go_sem]; refine BR.intro (fun h3 => hT ?_) (fun h3 => hF ?_); all_goals clear hT hF T F; try simp at h3)
  ·have h3' : n = f := by omega
   (refine awp_sr fun Y Yh => ?_; simp [go_sem]; ((repeat' (first|(refine ag_x ?_;simp [go_sem])|intro _|apply And.intro|(apply Yh;clear Yh Y)));all_goals first|apply Hold.mk|omega|with_reducible assumption|skip))
   (refine awp_ret ?_; simp [go_sem, retQ])
   simp [h3', stkI]
  ·refine awp_skip ?_
   refine hK2 _ ?_; clear hK2
   simp only [show ¬ (n = f) by omega, if_false]
   have hflt : f < t.length := by omega
   have hgf : t[f]? = some t[f] := List.getElem?_eq_getElem hflt
   refine awp_seq_k fun K4 hK4 => ?_
   have F1 : ∀ S', Cov S' ⟨[(1, .rd [dS t]), (2, .ptr 900003 gn 0), (4, .fn 173 [.ptr 900003 gn 0, .rd [dS t]])], [(900003, (gn, .box [dI n]))]⟩ → ¬ (t[f]? = some 48 ∧ f + 1 < n) → K4 S' := fun S' hS hz => by
    refine hK4 _ ?_; clear hK4
    refine awp_cov hS ?_; clear hS
    rw [if_neg hz]
    clear hz
    unfold numF
    refine awp_seq_k fun K6 hK6 => ?_
    
    have X1 : ∀ (m : Nat) (S' : St), m ≤ t.length → Cov S' ⟨[(1, .rd [dS t]), (2, .ptr 900003 gn 0), (4, .fn 173 [.ptr 900003 gn 0, .rd [dS t]])], [(900003, (gn, .box [dI m]))]⟩ →
      (if t[n]? = some 46 then (if digE t (n + 1) = n + 1 then (digE t (n + 1), some (digE t (n + 1))) else numX t (digE t (n + 1))) else numX t n) = numX t m → K6 S' := fun m S' hm hS hr => by
     refine hK6 _ ?_; clear hK6
     refine awp_cov hS ?_; clear hS
     simp only [hr]
     clear hr
     unfold numX
     generalize hk0 : (if t[m + 1]? = some 43 ∨ t[m + 1]? = some 45 then m + 2 else m + 1) = k0
     refine awp_seq_k fun K7 hK7 => ?_
     have no : ∀ S', Cov S' ⟨[(2, .ptr 900003 gn 0)], [(900003, (gn, .box [dI m]))]⟩ → ¬ (t[m]? = some 101 ∨ t[m]? = some 69) → K7 S' := fun S' hS hx => by
      refine hK7 _ ?_; clear hK7
      refine awp_cov hS ?_; clear hS
      rw [if_neg hx]
      (refine awp_sr fun Y Yh => ?_; simp [go_sem]; ((repeat' (first|(refine ag_x ?_;simp [go_sem])|intro _|apply And.intro|(apply Yh;clear Yh Y)));all_goals first|apply Hold.mk|omega|with_reducible assumption|skip))
      (refine awp_ret ?_; simp [go_sem, retQ])
      simp [stkI]
     by_cases hlt : m < t.length
     ·have h1 : (m : Int) < t.length := by omega
      have hgm : t[m]? = some t[m] := List.getElem?_eq_getElem hlt
      (refine awp_sr fun Y Yh => ?_; simp [go_sem, h1, hlt, hgm]; ((repeat' (first|(refine ag_x ?_;simp [go_sem, h1, hlt, hgm])|intro _|apply And.intro|(apply Yh;clear Yh Y)));all_goals first|apply Hold.mk|omega|with_reducible assumption|skip))
      (refine awp_if fun T F hT hF => ?_; simp [go_sem]; refine BR.intro (fun h5 => hT ?_) (fun h5 => hF ?_); all_goals clear hT hF T F; try simp at h5)
      ·have hx : t[m]? = some 101 ∨ t[m]? = some 69 := by
        rw [hgm]
        rcases h5 with h5 | h5
        ·exact .inl (congrArg some ((u8i _ 101).1 (h5.trans rfl)))
        ·exact .inr (congrArg some ((u8i _ 69).1 (h5.trans rfl)))
       rw [if_pos hx]
       clear no
       (refine awp_sr fun Y Yh => ?_; simp [go_sem]; ((repeat' (first|(refine ag_x ?_;simp [go_sem])|intro _|apply And.intro|(apply Yh;clear Yh Y)));all_goals first|apply Hold.mk|omega|with_reducible assumption|skip))
       refine awp_seq_k fun K9 hK9 => ?_
       have tl9 : ∀ (k : Nat) (S' : St), k ≤ t.length → Cov S' ⟨[(2, .ptr 900003 gn 0), (4, .fn 173 [.ptr 900003 gn 0, .rd [dS t]])], [(900003, (gn, .box [dI k]))]⟩ →
         k0 = k → K9 S' := fun k S' hk hS hr => by
        refine hK9 _ ?_; clear hK9
        refine awp_cov hS ?_; clear hS
        subst hr
        have := digE_ge t k0
        (refine awp_sr fun Y Yh => ?_; simp [go_sem]; ((repeat' (first|(refine ag_x ?_;simp [go_sem])|intro _|apply And.intro|(apply Yh;clear Yh Y)));all_goals first|apply Hold.mk|omega|with_reducible assumption|skip))
        (refine callA_l [900003] (by first|exact .inl ⟨rfl,rfl⟩|exact .inr rfl) (by simp [go_sem]) ?_; intro args ha; simp [go_sem] at ha; subst ha; refine ⟨_, _, (digits_spec gn t k0 hl2 hk), (by simp [go_sem]), ?_⟩; rintro ps r hps ⟨rfl, rfl⟩; simp [go_sem]; ((repeat' (first|(refine ag_x ?_;simp [go_sem])|intro _|apply And.intro|(apply Yh;clear Yh Y)));all_goals first|apply Hold.mk|omega|with_reducible assumption|skip))
        (refine awp_if fun T F hT hF => ?_; simp [go_sem]; refine BR.intro (fun h6 => hT ?_) (fun h6 => hF ?_); all_goals clear hT hF T F; try simp at h6)
        ·(refine awp_sr fun Y Yh => ?_; simp [go_sem]; ((repeat' (first|(refine ag_x ?_;simp [go_sem])|intro _|apply And.intro|(apply Yh;clear Yh Y)));all_goals first|apply Hold.mk|omega|with_reducible assumption|skip))
         (refine awp_ret ?_; simp [go_sem, retQ])
         rw [if_pos (show digE t k0 = k0 by omega)]
         simp [stkI]
        ·refine awp_skip ?_
         refine hK7 _ ?_; clear hK7
         (refine awp_sr fun Y Yh => ?_; simp [go_sem]; ((repeat' (first|(refine ag_x ?_;simp [go_sem])|intro _|apply And.intro|(apply Yh;clear Yh Y)));all_goals first|apply Hold.mk|omega|with_reducible assumption|skip))
         (refine awp_ret ?_; simp [go_sem, retQ])
         rw [if_pos hx, if_neg (show ¬ digE t k0 = k0 by omega)]
         simp [stkI]
       by_cases hlt2 : m + 1 < t.length
       ·have h2 : (m : Int) + 1 < t.length := by omega
        have hgm2 : t[m + 1]? = some t[m + 1] := List.getElem?_eq_getElem hlt2
        (refine awp_sr fun Y Yh => ?_; simp [go_sem, h2, hlt2, hgm2]; ((repeat' (first|(refine ag_x ?_;simp [go_sem, h2, hlt2, hgm2])|intro _|apply And.intro|(apply Yh;clear Yh Y)));all_goals first|apply Hold.mk|omega|with_reducible assumption|skip))
        (refine awp_if fun T F hT hF => ?_; simp [go_sem]; refine BR.intro (fun h7 => hT ?_) (fun h7 => hF ?_); all_goals clear hT hF T F; try simp at h7)
        ·(refine awp_r fun Y Yh => ?_; simp [go_sem]; ((repeat' (first|(refine ag_x ?_;simp [go_sem])|intro _|apply And.intro|(apply Yh;clear Yh Y)));all_goals first|apply Hold.mk|omega|with_reducible assumption|skip))
         refine tl9 (m + 2) _ (by omega) ?_ ?_
         ·(refine cov_of ?_ ?_ <;> simp [go_sem])
          omega
         ·rw [← hk0, if_pos]
          rw [hgm2]
          rcases h7 with h7 | h7
          ·exact .inl (congrArg some ((u8i _ 43).1 (h7.trans rfl)))
          ·exact .inr (congrArg some ((u8i _ 45).1 (h7.trans rfl)))
        ·refine awp_skip ?_
         refine tl9 (m + 1) _ (by omega) ?_ ?_
         ·(refine cov_of ?_ ?_ <;> simp [go_sem])
         ·rw [← hk0, if_neg]
          rw [hgm2]
          rintro (h | h)
          ·simp only [Option.some.injEq] at h; rw [h] at h7; exact h7.1 rfl
          ·simp only [Option.some.injEq] at h; rw [h] at h7; exact h7.2 rfl
       ·have h2 : ¬ (m : Int) + 1 < t.length := by omega
        (refine awp_sr fun Y Yh => ?_; simp [go_sem, h2, hlt2]; ((repeat' (first|(refine ag_false ?_ ?_ ?_;(focus (simp [go_sem, undef, h2, hlt2];done));(focus (simp [go_sem];done));simp [go_sem, h2, hlt2])|(refine ag_x ?_;simp [go_sem, undef, h2, hlt2])|intro _|apply And.intro|(apply Yh;clear Yh Y)));all_goals first|apply Hold.mk|omega|with_reducible assumption|skip))
        (refine awp_if fun T F hT hF => ?_; simp [go_sem]; refine hF ?_; clear hT hF T F)
        refine awp_skip ?_
        refine tl9 (m + 1) _ (by omega) ?_ ?_
        ·(refine cov_of ?_ ?_ <;> simp [go_sem])
        ·rw [← hk0, if_neg]
         rw [List.getElem?_eq_none (by omega)]
         simp
      ·refine awp_skip ?_
       refine no _ ?_ ?_
       ·(refine cov_of ?_ ?_ <;> simp [go_sem])
       ·rw [hgm]
        rintro (h | h)
        ·simp only [Option.some.injEq] at h; rw [h] at h5; exact h5.1 rfl
        ·simp only [Option.some.injEq] at h; rw [h] at h5; exact h5.2 rfl
     ·have h1 : ¬ (m : Int) < t.length := by omega
      (refine awp_sr fun Y Yh => ?_; simp [go_sem, h1, hlt]; ((repeat' (first|(refine ag_false ?_ ?_ ?_;(focus (simp [go_sem, undef, h1, hlt];done));(focus (simp [go_sem];done));simp [go_sem, h1, hlt])|(refine ag_x ?_;simp [go_sem, undef, h1, hlt])|intro _|apply And.intro|(apply Yh;clear Yh Y)));all_goals first|apply Hold.mk|omega|with_reducible assumption|skip))
      (refine awp_if fun T F hT hF => ?_; simp [go_sem]; refine hF ?_; clear hT hF T F)
      refine awp_skip ?_
      refine no _ ?_ ?_
      ·(refine cov_of ?_ ?_ <;> simp [go_sem])
      ·rw [List.getElem?_eq_none (by omega)]
       simp
    by_cases hlt : n < t.length
    ·have h1 : (n : Int) < t.length := by omega
     have hgm : t[n]? = some t[n] := List.getElem?_eq_getElem hlt
     (refine awp_sr fun Y Yh => ?_; simp [go_sem, h1, hlt, hgm]; ((repeat' (first|(refine ag_x ?_;simp [go_sem, h1, hlt, hgm])|intro _|apply And.intro|(apply Yh;clear Yh Y)));all_goals first|apply Hold.mk|omega|with_reducible assumption|skip))
     (refine awp_if fun T F hT hF => ?_; simp [go_sem]; refine BR.intro (fun h4 => hT ?_) (fun h4 => hF ?_); all_goals clear hT hF T F; try simp at h4)
     ·have hd : t[n]? = some 46 := by rw [hgm]; exact congrArg some ((u8i _ 46).1 (h4.trans rfl))
      have hge1 := digE_ge t (n + 1)
      have hle1 := digE_le (t := t) (i := n + 1) (by omega)
      (refine awp_sr fun Y Yh => ?_; simp [go_sem]; ((repeat' (first|(refine ag_x ?_;simp [go_sem])|intro _|apply And.intro|(apply Yh;clear Yh Y)));all_goals first|apply Hold.mk|omega|with_reducible assumption|skip))
      (refine awp_sr fun Y Yh => ?_; simp [go_sem]; ((repeat' (first|(refine ag_x ?_;simp [go_sem])|intro _|apply And.intro|(apply Yh;clear Yh Y)));all_goals first|apply Hold.mk|omega|with_reducible assumption|skip))
      (refine callA_l [900003] (by first|exact .inl ⟨rfl,rfl⟩|exact .inr rfl) (by simp [go_sem]) ?_; intro args ha; simp [go_sem] at ha; subst ha; refine ⟨_, _, (digits_spec gn t (n + 1) hl2 (by omega)), (by simp [go_sem]), ?_⟩; rintro ps r hps ⟨rfl, rfl⟩; simp [go_sem]; ((repeat' (first|(refine ag_x ?_;simp [go_sem])|intro _|apply And.intro|(apply Yh;clear Yh Y)));all_goals first|apply Hold.mk|omega|with_reducible assumption|skip))
      (refine awp_if fun T F hT hF => ?_; simp [go_sem]; refine BR.intro (fun h5 => hT ?_) (fun h5 => hF ?_); all_goals clear hT hF T F; try simp at h5)
      ·(refine awp_sr fun Y Yh => ?_; simp [go_sem]; ((repeat' (first|(refine ag_x ?_;simp [go_sem])|intro _|apply And.intro|(apply Yh;clear Yh Y)));all_goals first|apply Hold.mk|omega|with_reducible assumption|skip))
       (refine awp_ret ?_; simp [go_sem, retQ])
       rw [if_pos hd, if_pos (by omega)]
       simp [stkI]
      ·refine awp_skip ?_
       refine X1 (digE t (n + 1)) _ hle1 ?_ (by rw [if_pos hd, if_neg (by omega)])
       (refine cov_of ?_ ?_ <;> simp [go_sem])
     ·refine awp_skip ?_
      refine X1 n _ hle ?_ (by rw [if_neg]; rw [hgm]; intro h; simp only [Option.some.injEq] at h; rw [h] at h4; exact h4 rfl)
      (refine cov_of ?_ ?_ <;> simp [go_sem])
    ·have h1 : ¬ (n : Int) < t.length := by omega
     (refine awp_sr fun Y Yh => ?_; simp [go_sem, h1, hlt]; ((repeat' (first|(refine ag_false ?_ ?_ ?_;(focus (simp [go_sem, undef, h1, hlt];done));(focus (simp [go_sem];done));simp [go_sem, h1, hlt])|(refine ag_x ?_;simp [go_sem, undef, h1, hlt])|intro _|apply And.intro|(apply Yh;clear Yh Y)));all_goals first|apply Hold.mk|omega|with_reducible assumption|skip))
     (refine awp_if fun T F hT hF => ?_; simp [go_sem]; refine hF ?_; clear hT hF T F)
     refine awp_skip ?_
     refine X1 n _ hle ?_ (by rw [if_neg]; rw [List.getElem?_eq_none (by omega)]; simp)
     (refine cov_of ?_ ?_ <;> simp [go_sem])
   by_cases hz : t[f] = 48
   ·have hz1 : (t[f].toNat : Int) = 48 := by rw [hz]; rfl
    (refine awp_sr fun Y Yh => ?_; simp [go_sem, hflt, hgf, hz1]; ((repeat' (first|(refine ag_x ?_;simp [go_sem, hflt, hgf, hz1])|intro _|apply And.intro|(apply Yh;clear Yh Y)));all_goals first|apply Hold.mk|omega|with_reducible assumption|skip))
    (refine awp_if fun T F hT hF => ?_; simp [go_sem, hz1]; refine BR.intro (fun h4 => hT ?_) (fun h4 => hF ?_); all_goals clear hT hF T F; try simp at h4)
    ·(refine awp_sr fun Y Yh => ?_; simp [go_sem]; ((repeat' (first|(refine ag_x ?_;simp [go_sem])|intro _|apply And.intro|(apply Yh;clear Yh Y)));all_goals first|apply Hold.mk|omega|with_reducible assumption|skip))
     (refine awp_ret ?_; simp [go_sem, retQ])
     rw [hgf, hz, if_pos ⟨rfl, by omega⟩]
     simp [stkI]
    ·refine awp_skip ?_
     refine F1 _ ?_ (by rintro ⟨_, h⟩; omega)
     (refine cov_of ?_ ?_ <;> simp [go_sem])
   ·have hz1 : ¬ (t[f].toNat : Int) = 48 := fun h => hz ((u8i _ 48).1 h)
    (refine awp_sr fun Y Yh => ?_; simp [go_sem, hflt, hgf, hz1]; ((repeat' (first|(refine ag_false ?_ ?_ ?_;(focus (simp [go_sem, undef, hflt, hgf, hz1];done));(focus (simp [go_sem];done));simp [go_sem, hflt, hgf, hz1])|(refine ag_x ?_;simp [go_sem, undef, hflt, hgf, hz1])|intro _|apply And.intro|(apply Yh;clear Yh Y)));all_goals first|apply Hold.mk|omega|with_reducible assumption|skip))
    (refine awp_if fun T F hT hF => ?_; simp [go_sem]; refine hF ?_; clear hT hF T F)
    refine awp_skip ?_
    refine F1 _ ?_ (by rw [hgf]; rintro ⟨h, _⟩; exact hz (by simpa using h))
    (refine cov_of ?_ ?_ <;> simp [go_sem])
 clear hK1
 (refine awp_sr fun Y Yh => ?_; simp [go_sem]; ((repeat' (first|(refine ag_x ?_;simp [go_sem])|intro _|apply And.intro|(apply Yh;clear Yh Y)));all_goals first|apply Hold.mk|omega|with_reducible assumption|skip))
 ((try refine CallT.toA ?_); refine callT_f (by first|exact .inl ⟨rfl,rfl⟩|exact .inr rfl) ?_; intro args ha; simp [go_sem] at ha; subst ha; refine ⟨_, (hasPre_spec _ _), ?_⟩; rintro _ rfl; refine ⟨rfl, ?_⟩; simp [go_sem]; ((repeat' (first|(refine ag_x ?_;simp [go_sem])|intro _|apply And.intro|(apply Yh;clear Yh Y)));all_goals first|apply Hold.mk|omega|with_reducible assumption|skip))
 (refine awp_if fun T F hT hF => ?_; simp [go_sem]; refine BR.intro (fun h3 => hT ?_) (fun h3 => hF ?_); all_goals clear hT hF T F; try simp at h3)
 ·have : t[0]? = some 45 := (pre1 _ _).1 (List.isPrefixOf_iff_prefix.2 h3)
  rw [if_pos this] at hf
  (refine awp_r fun Y Yh => ?_; simp [go_sem]; ((repeat' (first|(refine ag_x ?_;simp [go_sem])|intro _|apply And.intro|(apply Yh;clear Yh Y)));all_goals first|apply Hold.mk|omega|with_reducible assumption|skip))
  refine tl1 _ ?_
  subst hf
  (refine cov_of ?_ ?_ <;> simp [go_sem])
 ·have : ¬ t[0]? = some 45 := fun h => by rw [(pre1 _ _).2 h] at h3; cases h3
  rw [if_neg this] at hf
  refine awp_skip ?_
  refine tl1 _ ?_
  subst hf
  (refine cov_of ?_ ?_ <;> simp [go_sem])
def XE {α : Type} (r : Except (Nat × Nat) α) (ch : List PanicEntry) : Prop := ∃ q, r = .error q ∧ ch = fP q.1 q.2
set_option maxHeartbeats 4000000 in
theorem number_spec (g : Nat) (s : Bs) (a n : Nat) (hl : s.length ≤ 1000000) (ha : a ≤ s.length) : XCall Tryz.prog 81 [pR g] (rdE g s a n) [900002]
  (fun ps r => ∃ q, numR s a = .ok q ∧ r = dJ (.mk 3 q.1 [] []) ∧ ps = [(g, .box [dS s, dI q.2, dI n])]) (XE (numR s a)) := by
 refine xcall_of Tryz.func81 rfl rfl Tryz.ntmps81 (rs := [.cell 2 26]) (tys := [26]) rfl rfl (by simp) (by simp [notFroz]) fun hp hpan => ?_
 have hle := numV_le (s.drop a)
 have hst := @numV_stuck (s.drop a)
 rw [List.length_drop] at hle
 unfold numR at hpan ⊢
 generalize hq : numV (s.drop a) = q at hle hst hpan ⊢
 obtain ⟨m, o⟩ := q
 simp only at hle hst hpan
 (refine awp_sr fun Y Yh => ?_; simp [go_sem]; ((repeat' (first|(refine ag_x ?_;simp [go_sem])|intro _|apply And.intro|(apply Yh;clear Yh Y)));all_goals first|apply Hold.mk|omega|with_reducible assumption|skip))
 ((refine awp_dr (.qs [0, 1, 2, 4, 5, 6, 3, 7, 8] (.one 9 (.qs [10, 11, 12, 13, 14] (.nil)))) (by kernel_rfl) ?_ ?_ ?_ ?_); (kernel_rfl); (exact (by decide +kernel)); (kernel_rfl); intro Y Yh; ((repeat' (first|(refine ag_x ?_;simp [go_sem])|refine adr_nil ?_|((first|refine adr_qs fun Y Yh=>?_|refine adr_y fun Y Yh=>?_);simp [go_sem])|intro _|apply And.intro|(apply Yh;clear Yh Y)));all_goals first|apply Hold.mk|omega|with_reducible assumption|skip))
 ((try refine CallT.toA ?_); refine callT_m (by first|exact .inl ⟨rfl,rfl⟩|exact .inr rfl) (by simp [go_sem]) ?_; intro args ha; simp [go_sem] at ha; subst ha; refine ⟨_, (numEnd_spec (s.drop a) (by simp; omega)), ?_⟩; rintro _ rfl; simp [go_sem]; ((repeat' (first|(refine ag_x ?_;simp [go_sem])|refine adr_nil ?_|((first|refine adr_qs fun Y Yh=>?_|refine adr_y fun Y Yh=>?_);simp [go_sem])|intro _|apply And.intro|(apply Yh;clear Yh Y)));all_goals first|apply Hold.mk|omega|with_reducible assumption|skip))
 rw [hq]
 cases o with
 | some k =>
  have hmk := hst rfl
  subst hmk
  simp only [stkI] at hpan ⊢
  refine awp_seq_k fun K1 hK1 => ?_
  refine awp_block ?_
  by_cases hk : m < 60
  ·rw [if_pos hk] at hpan
   have hk1 : (m : Int) < 60 := by omega
   (refine awp_sr fun Y Yh => ?_; simp [go_sem, hk1]; ((repeat' (first|(refine ag_x ?_;simp [go_sem, hk1])|intro _|apply And.intro|(apply Yh;clear Yh Y)));all_goals first|apply Hold.mk|omega|with_reducible assumption|skip))
   (refine awp_if fun T F hT hF => ?_; simp [go_sem]; refine hT ?_; clear hT hF T F)
   (refine awp_r fun Y Yh => ?_; simp [go_sem]; ((repeat' (first|(refine ag_x ?_;simp [go_sem])|intro _|apply And.intro|(apply Yh;clear Yh Y)));all_goals first|apply Hold.mk|omega|with_reducible assumption|skip))
   (refine callA_x [900002] (by first|exact .inl ⟨rfl,rfl⟩|exact .inr rfl) (by simp [go_sem]) ?_; intro args ha; simp [go_sem] at ha; subst ha; exact ⟨_, _, _, (fail_spec g s a n (a + m) (by omega)), (by simp [go_sem]), (fun ch h => hpan _ ⟨_, rfl, h⟩), fun _ _ _ h => h.elim⟩)
  ·rw [if_neg hk] at hpan
   have hk1 : ¬ (m : Int) < 60 := by omega
   have hk2 : (60 : Int) ≤ m := by omega
   (refine awp_sr fun Y Yh => ?_; simp [go_sem, hk1]; ((repeat' (first|(refine ag_x ?_;simp [go_sem, hk1])|intro _|apply And.intro|(apply Yh;clear Yh Y)));all_goals first|apply Hold.mk|omega|with_reducible assumption|skip))
   (refine awp_if fun T F hT hF => ?_; simp [go_sem]; refine hF ?_; clear hT hF T F)
   (refine awp_sr fun Y Yh => ?_; simp [go_sem, hk1, hk2]; ((repeat' (first|(refine ag_x ?_;simp [go_sem, hk1, hk2])|intro _|apply And.intro|(apply Yh;clear Yh Y)));all_goals first|apply Hold.mk|omega|with_reducible assumption|skip))
   (refine awp_if fun T F hT hF => ?_; simp [go_sem]; refine hT ?_; clear hT hF T F)
   (refine awp_r fun Y Yh => ?_; simp [go_sem]; ((repeat' (first|(refine ag_x ?_;simp [go_sem])|intro _|apply And.intro|(apply Yh;clear Yh Y)));all_goals first|apply Hold.mk|omega|with_reducible assumption|skip))
   (refine callA_x [900002] (by first|exact .inl ⟨rfl,rfl⟩|exact .inr rfl) (by simp [go_sem]) ?_; intro args ha; simp [go_sem] at ha; subst ha; exact ⟨_, _, _, (fail_spec g s a n (a + 60) (by omega)), (by simp [go_sem]), (fun ch h => hpan _ ⟨_, rfl, h⟩), fun _ _ _ h => h.elim⟩)
 | none =>
  simp only [stkI] at hpan ⊢
  refine awp_seq_k fun K1 hK1 => ?_
  refine awp_block ?_
  have h0 : ¬ (0 : Int) ≤ -1 := by omega
  (refine awp_sr fun Y Yh => ?_; simp [go_sem, h0]; ((repeat' (first|(refine ag_false ?_ ?_ ?_;(focus (simp [go_sem, undef, h0];done));(focus (simp [go_sem];done));simp [go_sem, h0])|(refine ag_x ?_;simp [go_sem, undef, h0])|intro _|apply And.intro|(apply Yh;clear Yh Y)));all_goals first|apply Hold.mk|omega|with_reducible assumption|skip))
  (refine awp_if fun T F hT hF => ?_; simp [go_sem]; refine hF ?_; clear hT hF T F)
  by_cases hk : 60 < m
  ·rw [if_pos hk] at hpan
   have hk1 : (60 : Int) < m := by omega
   (refine awp_sr fun Y Yh => ?_; simp [go_sem, hk1]; ((repeat' (first|(refine ag_false ?_ ?_ ?_;(focus (simp [go_sem, undef, hk1];done));(focus (simp [go_sem];done));simp [go_sem, hk1])|(refine ag_x ?_;simp [go_sem, undef, hk1])|intro _|apply And.intro|(apply Yh;clear Yh Y)));all_goals first|apply Hold.mk|omega|with_reducible assumption|skip))
   (refine awp_if fun T F hT hF => ?_; simp [go_sem]; refine hT ?_; clear hT hF T F)
   (refine awp_r fun Y Yh => ?_; simp [go_sem]; ((repeat' (first|(refine ag_x ?_;simp [go_sem])|intro _|apply And.intro|(apply Yh;clear Yh Y)));all_goals first|apply Hold.mk|omega|with_reducible assumption|skip))
   (refine callA_x [900002] (by first|exact .inl ⟨rfl,rfl⟩|exact .inr rfl) (by simp [go_sem]) ?_; intro args ha; simp [go_sem] at ha; subst ha; exact ⟨_, _, _, (fail_spec g s a n (a + 60) (by omega)), (by simp [go_sem]), (fun ch h => hpan _ ⟨_, rfl, h⟩), fun _ _ _ h => h.elim⟩)
  ·rw [if_neg hk] at hpan
   have hk1 : ¬ (60 : Int) < m := by omega
   (refine awp_sr fun Y Yh => ?_; simp [go_sem, hk1]; ((repeat' (first|(refine ag_false ?_ ?_ ?_;(focus (simp [go_sem, undef, hk1];done));(focus (simp [go_sem];done));simp [go_sem, hk1])|(refine ag_x ?_;simp [go_sem, undef, hk1])|intro _|apply And.intro|(apply Yh;clear Yh Y)));all_goals first|apply Hold.mk|omega|with_reducible assumption|skip))
   (refine awp_if fun T F hT hF => ?_; simp [go_sem]; refine hF ?_; clear hT hF T F)
   refine awp_skip ?_
   refine hK1 _ ?_; clear hK1
   rw [if_neg hk]
   (refine awp_sr fun Y Yh => ?_; simp [go_sem]; ((repeat' (first|(refine ag_x ?_;simp [go_sem])|intro _|apply And.intro|(apply Yh;clear Yh Y)));all_goals first|apply Hold.mk|omega|with_reducible assumption|skip))
   ((refine awp_dr (.qs [0, 1, 2, 4, 5, 6, 8, 10, 11, 12, 3, 7, 9, 13, 14, 15] (.one 16 (.nil))) (by kernel_rfl) ?_ ?_ ?_ ?_); (kernel_rfl); (exact (by decide +kernel)); (kernel_rfl); intro Y Yh; ((repeat' (first|(refine ag_x ?_;simp [go_sem])|refine adr_nil ?_|((first|refine adr_qs fun Y Yh=>?_|refine adr_y fun Y Yh=>?_);simp [go_sem])|intro _|apply And.intro|(apply Yh;clear Yh Y)));all_goals first|apply Hold.mk|omega|with_reducible assumption|skip))
   have e1 : ((a : Int) + m).toNat = a + m := by omega
   (refine awp_ret ?_; simp [go_sem, retA, e1, ba_cut])
   simp [dJ_mk]
theorem word_spec (g : Nat) (s w : Bs) (k : Int) (a n : Nat) (hl : s.length ≤ 1000000) (hw : w.length ≤ 100) (ha : a ≤ s.length) (hk : k ≤ 100) : XCall Tryz.prog 80 [pR g, dS w, dI k] (rdE g s a n) [900002]
  (fun ps r => wordV s w a = none ∧ r = dJ (.mk k [] [] []) ∧ ps = [(g, .box [dS s, dI ((a + w.length : Nat) : Int), dI n])]) (fun ch => ∃ p, wordV s w a = some p ∧ ch = fP (failP s p) (failE s p)) := by
 refine xcall_of Tryz.func80 rfl rfl Tryz.ntmps80 (rs := [.cell 6 26]) (tys := [26]) rfl rfl (by simp) (by simp [notFroz]) fun hp hpan => ?_
 refine awp_seq ?_
 refine awp_r fun Y Yh => ?_
 simp [go_sem]
 intro gv
 apply Yh; clear Yh Y
 refine Hold.mk ?_
 refine awp_seq_k fun K1 hK1 => ?_
 (refine awp_sr fun Y Yh => ?_; simp [go_sem]; ((repeat' (first|(refine ag_x ?_;simp [go_sem])|intro _|apply And.intro|(apply Yh;clear Yh Y)));all_goals first|apply Hold.mk|omega|with_reducible assumption|skip))
 refine awp_block ?_
 refine awp_loop (σ := Nat) (fun x => ⟨[(0, pR g), (1, dS w), (2, dI k), (6, .ptr 6 gv 0), (9, dI w.length), (10, dI x)], [(6, (gv, .box [dI 0, dS [], .v (.slice none 0 0), .v (.slice none 0 0)]))] ++ rdE g s a n⟩) (fun x => x ≤ w.length ∧ wordV s (w.drop x) (a + x) = wordV s w a ∧ a + x ≤ s.length) (fun x => w.length - x) 0 ?_ ⟨by omega, rfl, ha⟩ ?_
 ·(refine cov_of ?_ ?_ <;> simp [go_sem])
 rintro x ⟨hx, he, hax⟩
 (refine awp_sr fun Y Yh => ?_; simp [go_sem]; ((repeat' (first|(refine ag_x ?_;simp [go_sem])|intro _|apply And.intro|(apply Yh;clear Yh Y)));all_goals first|apply Hold.mk|omega|with_reducible assumption|skip))
 refine awp_seq_k fun K2 hK2 => ?_
 (refine awp_if fun T F hT hF => ?_; simp [go_sem]; refine BR.intro (fun h3 => hT ?_) (fun h3 => hF ?_); all_goals clear hT hF T F; try simp at h3)
 ·have hlt : x < w.length := by omega
  have hgw : w[x]? = some w[x] := List.getElem?_eq_getElem hlt
  rw [drop_cons hlt, wordV] at he
  refine awp_skip ?_
  refine hK2 _ ?_; clear hK2
  refine awp_seq_k fun K4 hK4 => ?_
  refine awp_block ?_
  (refine awp_sr fun Y Yh => ?_; simp [go_sem]; ((repeat' (first|(refine ag_x ?_;simp [go_sem])|intro _|apply And.intro|(apply Yh;clear Yh Y)));all_goals first|apply Hold.mk|omega|with_reducible assumption|skip))
  have bad : s[a + x]? ≠ some w[x] → ∀ ch, ch = fP (failP s (a + x)) (failE s (a + x)) → HasPan.pan Tryz.prog ch := fun hn ch h => by
   rw [if_neg hn] at he
   exact hpan ch ⟨_, he.symm, h⟩
  by_cases h4 : a + x < s.length
  ·have h4' : (a : Int) + x < s.length := by omega
   have h4'' : ¬ (s.length : Int) ≤ (a : Int) + x := by omega
   have hgs : s[a + x]? = some s[a + x] := List.getElem?_eq_getElem h4
   have e2 : ((a : Int) + x).toNat = a + x := by omega
   ((refine awp_dr (.qs [0, 1, 2, 4, 6, 7, 8, 3, 5, 9, 10, 11, 12, 13, 14, 15, 17, 18, 19, 21, 24, 25, 26, 16, 20, 22, 23, 27, 28] (.nil)) (by kernel_rfl) ?_ ?_ ?_ ?_); (kernel_rfl); (exact (by decide +kernel)); (kernel_rfl); intro Y Yh; ((repeat' (first|(refine ag_x ?_;simp [go_sem, h4, h4', h4'', e2, hgs, hlt, hgw])|refine adr_nil ?_|((first|refine adr_qs fun Y Yh=>?_|refine adr_y fun Y Yh=>?_);simp [go_sem, h4, h4', h4'', e2, hgs, hlt, hgw])|intro _|apply And.intro|(apply Yh;clear Yh Y)));all_goals first|apply Hold.mk|omega|with_reducible assumption|skip))
   (refine awp_if fun T F hT hF => ?_; simp [go_sem]; refine BR.intro (fun h5 => hT ?_) (fun h5 => hF ?_); all_goals clear hT hF T F; try simp at h5)
   ·(refine awp_r fun Y Yh => ?_; simp [go_sem]; ((repeat' (first|(refine ag_x ?_;simp [go_sem])|intro _|apply And.intro|(apply Yh;clear Yh Y)));all_goals first|apply Hold.mk|omega|with_reducible assumption|skip))
    (refine callA_x [900002] (by first|exact .inl ⟨rfl,rfl⟩|exact .inr rfl) (by simp [go_sem]) ?_; intro args ha; simp [go_sem] at ha; subst ha; exact ⟨_, _, _, (fail_spec g s a n (a + x) (by omega)), (by simp [go_sem]), (bad (fun q => by rw [hgs] at q; simp only [Option.some.injEq] at q; rw [q] at h5; exact h5 rfl)), fun _ _ _ h => h.elim⟩)
   ·rw [if_pos (by rw [hgs]; exact congrArg some (UInt8.toNat_inj.1 (by omega)))] at he
    refine awp_skip ?_
    refine hK4 _ ?_; clear hK4
    (refine awp_r fun Y Yh => ?_; simp [go_sem]; ((repeat' (first|(refine ag_x ?_;simp [go_sem])|intro _|apply And.intro|(apply Yh;clear Yh Y)));all_goals first|apply Hold.mk|omega|with_reducible assumption|skip))
    refine ⟨x + 1, ?_, ⟨by omega, he, by omega⟩, by omega⟩
    (refine cov_of ?_ ?_ <;> simp [go_sem])
  ·have h4' : (s.length : Int) ≤ (a : Int) + x := by omega
   ((refine awp_dr (.qs [0, 1, 2, 4, 6, 7, 8, 3, 5, 9, 10, 11, 12] (.sk 13 (.sk 14 (.sk 15 (.sk 17 (.sk 18 (.sk 19 (.sk 21 (.sk 24 (.sk 25 (.sk 26 (.sk 16 (.sk 20 (.sk 22 (.sk 23 (.sk 27 (.qs [28] .nil))))))))))))))))) (by kernel_rfl) ?_ ?_ ?_ ?_); (kernel_rfl); (exact (by decide +kernel)); (kernel_rfl); intro Y Yh; ((repeat' (first|(refine ag_x ?_;simp [go_sem, h4', undef])|refine adr_nil ?_|((first|refine adr_qs fun Y Yh=>?_|refine adr_y fun Y Yh=>?_);simp [go_sem, h4', undef])|intro _|apply And.intro|(apply Yh;clear Yh Y)));all_goals first|apply Hold.mk|omega|with_reducible assumption|skip))
   (refine awp_if fun T F hT hF => ?_; simp [go_sem]; refine hT ?_; clear hT hF T F)
   (refine awp_r fun Y Yh => ?_; simp [go_sem]; ((repeat' (first|(refine ag_x ?_;simp [go_sem])|intro _|apply And.intro|(apply Yh;clear Yh Y)));all_goals first|apply Hold.mk|omega|with_reducible assumption|skip))
   (refine callA_x [900002] (by first|exact .inl ⟨rfl,rfl⟩|exact .inr rfl) (by simp [go_sem]) ?_; intro args ha; simp [go_sem] at ha; subst ha; exact ⟨_, _, _, (fail_spec g s a n (a + x) (by omega)), (by simp [go_sem]), (bad (by rw [List.getElem?_eq_none (by omega)]; simp)), fun _ _ _ h => h.elim⟩)
 ·have hxl : x = w.length := by omega
  subst hxl
  refine awp_exit ?_
  simp only [go_sem]
  refine hK1 _ ?_; clear hK1
  rw [List.drop_length] at he
  (refine awp_sr fun Y Yh => ?_; simp [go_sem]; ((repeat' (first|(refine ag_x ?_;simp [go_sem])|intro _|apply And.intro|(apply Yh;clear Yh Y)));all_goals first|apply Hold.mk|omega|with_reducible assumption|skip))
  (refine awp_sr fun Y Yh => ?_; simp [go_sem]; ((repeat' (first|(refine ag_x ?_;simp [go_sem])|intro _|apply And.intro|(apply Yh;clear Yh Y)));all_goals first|apply Hold.mk|omega|with_reducible assumption|skip))
  (refine awp_ret ?_; simp [go_sem, retA])
  exact ⟨he.symm, by simp [dJ_mk]⟩
set_option maxHeartbeats 4000000 in
theorem hex_spec (g : Nat) (s : Bs) (e told a n : Nat) (hl : s.length ≤ 1000000) (he : e ≤ s.length) (ht : told ≤ s.length) : XCall Tryz.prog 200 [pR g, dI e, dI told] (rdE g s a n) [900002]
  (fun ps r => ∃ q, hexV s e told = .ok q ∧ r = dI q ∧ ps = [(g, .box [dS s, dI a, dI n])]) (XE (hexV s e told)) := by
 refine xcall_of Tryz.func200 rfl rfl Tryz.ntmps200 (rs := [.tmp 6]) (tys := [3]) rfl rfl (by simp) (by simp [notFroz]) fun hp hpan => ?_
 unfold hexV at hpan ⊢
 (refine awp_sr fun Y Yh => ?_; simp [go_sem]; ((repeat' (first|(refine ag_x ?_;simp [go_sem])|intro _|apply And.intro|(apply Yh;clear Yh Y)));all_goals first|apply Hold.mk|omega|with_reducible assumption|skip))
 (refine awp_sr fun Y Yh => ?_; simp [go_sem]; ((repeat' (first|(refine ag_x ?_;simp [go_sem])|intro _|apply And.intro|(apply Yh;clear Yh Y)));all_goals first|apply Hold.mk|omega|with_reducible assumption|skip))
 refine awp_seq_k fun K1 hK1 => ?_
 (refine awp_sr fun Y Yh => ?_; simp [go_sem]; ((repeat' (first|(refine ag_x ?_;simp [go_sem])|intro _|apply And.intro|(apply Yh;clear Yh Y)));all_goals first|apply Hold.mk|omega|with_reducible assumption|skip))
 refine awp_block ?_
 refine awp_loop (σ := Nat × Nat) (fun x => ⟨[(0, pR g), (1, dI e), (2, dI told), (7, dI x.2), (8, dI x.1)], rdE g s a n⟩) (fun x => 2 ≤ x.1 ∧ x.1 ≤ 6 ∧ hexG s e told (6 - x.1) x.1 x.2 = hexG s e told 4 2 0 ∧ x.2 < 16 ^ (x.1 - 2)) (fun x => 6 - x.1) (2, 0) ?_ ⟨by omega, by omega, rfl, by simp⟩ ?_
 ·(refine cov_of ?_ ?_ <;> simp [go_sem])
 rintro ⟨i, m⟩ ⟨h2, h6, hg, hm⟩
 simp only at h2 h6 hg hm ⊢
 have hm2 : m < 65536 := Nat.lt_of_lt_of_le hm (by
  have : (16 : Nat) ^ (i - 2) ≤ 16 ^ 4 := Nat.pow_le_pow_right (by omega) (by omega)
  simpa using this)
 refine awp_seq_k fun K2 hK2 => ?_
 (refine awp_sr fun Y Yh => ?_; simp [go_sem]; ((repeat' (first|(refine ag_x ?_;simp [go_sem])|intro _|apply And.intro|(apply Yh;clear Yh Y)));all_goals first|apply Hold.mk|omega|with_reducible assumption|skip))
 (refine awp_if fun T F hT hF => ?_; simp [go_sem]; refine BR.intro (fun h3 => hT ?_) (fun h3 => hF ?_); all_goals clear hT hF T F; try simp at h3)
 ·refine awp_skip ?_
  refine hK2 _ ?_; clear hK2
  refine awp_seq_k fun K4 hK4 => ?_
  refine awp_block ?_
  obtain ⟨k, hk⟩ : ∃ k, 6 - i = k + 1 := ⟨5 - i, by omega⟩
  rw [hk, hexG] at hg
  refine awp_seq_k fun K5 hK5 => ?_
  (refine awp_sr fun Y Yh => ?_; simp [go_sem]; ((repeat' (first|(refine ag_x ?_;simp [go_sem])|intro _|apply And.intro|(apply Yh;clear Yh Y)));all_goals first|apply Hold.mk|omega|with_reducible assumption|skip))
  (refine awp_if fun T F hT hF => ?_; simp [go_sem]; refine BR.intro (fun h4 => hT ?_) (fun h4 => hF ?_); all_goals clear hT hF T F; try simp at h4)
  ·rw [List.getElem?_eq_none (by omega)] at hg
   (refine awp_r fun Y Yh => ?_; simp [go_sem]; ((repeat' (first|(refine ag_x ?_;simp [go_sem])|intro _|apply And.intro|(apply Yh;clear Yh Y)));all_goals first|apply Hold.mk|omega|with_reducible assumption|skip))
   (refine callA_x [900002] (by first|exact .inl ⟨rfl,rfl⟩|exact .inr rfl) (by simp [go_sem]) ?_; intro args ha; simp [go_sem] at ha; subst ha; exact ⟨_, _, _, (fail_spec g s a n s.length (by omega)), (by simp [go_sem]), (fun ch h => hpan _ ⟨_, hg.symm, by rw [h]; simp [failP, failE]⟩), fun _ _ _ h => h.elim⟩)
  ·have hlt : e + i < s.length := by omega
   have hgs : s[e + i]? = some s[e + i] := List.getElem?_eq_getElem hlt
   have e2 : ((e : Int) + i).toNat = e + i := by omega
   have eo := or_u8 s[e + i] 32
   have e32 : ((32 : UInt8).toNat : Int) = 32 := rfl
   rw [e32] at eo
   obtain ⟨x1, x2, x3⟩ := hexD_idx s[e + i]
   rw [hgs] at hg
   simp only at hg
   rw [x1] at hg
   refine awp_skip ?_
   refine hK5 _ ?_; clear hK5
   (refine awp_sr fun Y Yh => ?_; simp [go_sem, e2, hgs, eo]; ((repeat' (first|(refine ag_x ?_;simp [go_sem, e2, hgs, eo])|intro _|apply And.intro|(apply Yh;clear Yh Y)));all_goals first|apply Hold.mk|omega|with_reducible assumption|skip))
   have hix : PCall Tryz.prog 82 [dS hexS, .v (.int .u8 ((s[e + i].toNat ||| 32 : Nat) : Int))] fun r => r = dI (idxV hexS (s[e + i] ||| 32)) := idxB_spec hexS (s[e + i] ||| 32)
   ((try refine CallT.toA ?_); refine callT_m (by first|exact .inl ⟨rfl,rfl⟩|exact .inr rfl) (by simp [go_sem]) ?_; intro args ha; simp [go_sem] at ha; subst ha; refine ⟨_, hix, ?_⟩; rintro _ rfl; simp [go_sem, eo]; ((repeat' (first|(refine ag_x ?_;simp [go_sem, eo])|intro _|apply And.intro|(apply Yh;clear Yh Y)));all_goals first|apply Hold.mk|omega|with_reducible assumption|skip))
   refine awp_seq_k fun K6 hK6 => ?_
   (refine awp_sr fun Y Yh => ?_; simp [go_sem, e2, hgs]; ((repeat' (first|(refine ag_x ?_;simp [go_sem, e2, hgs])|intro _|apply And.intro|(apply Yh;clear Yh Y)));all_goals first|apply Hold.mk|omega|with_reducible assumption|skip))
   by_cases hd : idxV hexS (s[e + i] ||| 32) < 0
   ·rw [if_pos (.inl hd)] at hg
    (refine awp_sr fun Y Yh => ?_; simp [go_sem, hd]; ((repeat' (first|(refine ag_false ?_ ?_ ?_;(focus (simp [go_sem, undef, hd];done));(focus (simp [go_sem];done));simp [go_sem, hd])|(refine ag_x ?_;simp [go_sem, undef, hd])|intro _|apply And.intro|(apply Yh;clear Yh Y)));all_goals first|apply Hold.mk|omega|with_reducible assumption|skip))
    (refine awp_if fun T F hT hF => ?_; simp [go_sem]; refine hT ?_; clear hT hF T F)
    (refine awp_r fun Y Yh => ?_; simp [go_sem]; ((repeat' (first|(refine ag_x ?_;simp [go_sem])|intro _|apply And.intro|(apply Yh;clear Yh Y)));all_goals first|apply Hold.mk|omega|with_reducible assumption|skip))
    (refine callA_x [900002] (by first|exact .inl ⟨rfl,rfl⟩|exact .inr rfl) (by simp [go_sem]) ?_; intro args ha; simp [go_sem] at ha; subst ha; exact ⟨_, _, _, (fail_spec g s a n told (by omega)), (by simp [go_sem]), (fun ch h => hpan _ ⟨_, hg.symm, h⟩), fun _ _ _ h => h.elim⟩)
   ·(refine awp_sr fun Y Yh => ?_; simp [go_sem, hd]; ((repeat' (first|(refine ag_false ?_ ?_ ?_;(focus (simp [go_sem, undef, hd];done));(focus (simp [go_sem];done));simp [go_sem, hd])|(refine ag_x ?_;simp [go_sem, undef, hd])|intro _|apply And.intro|(apply Yh;clear Yh Y)));all_goals first|apply Hold.mk|omega|with_reducible assumption|skip))
    (refine awp_if fun T F hT hF => ?_; simp [go_sem]; refine BR.intro (fun h5 => hT ?_) (fun h5 => hF ?_); all_goals clear hT hF T F; try simp at h5)
    ·rw [if_pos (.inr (by omega))] at hg
     (refine awp_r fun Y Yh => ?_; simp [go_sem]; ((repeat' (first|(refine ag_x ?_;simp [go_sem])|intro _|apply And.intro|(apply Yh;clear Yh Y)));all_goals first|apply Hold.mk|omega|with_reducible assumption|skip))
     (refine callA_x [900002] (by first|exact .inl ⟨rfl,rfl⟩|exact .inr rfl) (by simp [go_sem]) ?_; intro args ha; simp [go_sem] at ha; subst ha; exact ⟨_, _, _, (fail_spec g s a n told (by omega)), (by simp [go_sem]), (fun ch h => hpan _ ⟨_, hg.symm, h⟩), fun _ _ _ h => h.elim⟩)
    ·rw [if_neg (by omega)] at hg
     obtain ⟨d, hdd⟩ : ∃ d : Nat, idxV hexS (s[e + i] ||| 32) = d := Int.eq_ofNat_of_zero_le (show 0 ≤ idxV hexS (s[e + i] ||| 32) by omega)
     rw [hdd] at hg ⊢
     rw [hdd] at x3
     simp only at hg
     refine awp_skip ?_
     refine hK6 _ ?_; clear hK6
     (refine awp_r fun Y Yh => ?_; simp [go_sem]; ((repeat' (first|(refine ag_x ?_;simp [go_sem])|intro _|apply And.intro|(apply Yh;clear Yh Y)));all_goals first|apply Hold.mk|omega|with_reducible assumption|skip))
     refine hK4 _ ?_; clear hK4
     (refine awp_r fun Y Yh => ?_; simp [go_sem]; ((repeat' (first|(refine ag_x ?_;simp [go_sem])|intro _|apply And.intro|(apply Yh;clear Yh Y)));all_goals first|apply Hold.mk|omega|with_reducible assumption|skip))
     refine ⟨(i + 1, m * 16 + d), ?_, ⟨by omega, by omega, ?_, ?_⟩, by simp only; omega⟩
     ·(refine cov_of ?_ ?_ <;> simp [go_sem])
     ·simp only
      rw [show 6 - (i + 1) = k by omega, ← hg]
      rfl
     ·simp only
      rw [show i + 1 - 2 = (i - 2) + 1 by omega, Nat.pow_succ]
      omega
 ·have : i = 6 := by omega
  subst this
  refine awp_exit ?_
  simp only [go_sem]
  refine hK1 _ ?_; clear hK1
  simp only [Nat.sub_self, hexG] at hg
  (refine awp_sr fun Y Yh => ?_; simp [go_sem]; ((repeat' (first|(refine ag_x ?_;simp [go_sem])|intro _|apply And.intro|(apply Yh;clear Yh Y)));all_goals first|apply Hold.mk|omega|with_reducible assumption|skip))
  (refine awp_ret ?_; simp [go_sem, retA])
  exact hg.symm
theorem wrap32 (m : Nat) (h : m < 2147483648) : IntKind.i32.wrap (m : Int) = m := by
 rw [IntKind.wrap_i32]; omega
theorem shl10 (x : Int) (h0 : 0 ≤ x) (h1 : x < 1024) : shlI .i64 x 10 = x * 1024 := by
 have e : (2 : Int) ^ min (10 : Int).toNat IntKind.i64.bits = 1024 := by decide
 unfold shlI
 rw [e, IntKind.wrap_i64]; omega
set_option maxHeartbeats 8000000 in
theorem wide_spec (g : Nat) (s : Bs) (e n : Nat) (hl : s.length ≤ 1000000) (he : e + 2 ≤ s.length) : XCall Tryz.prog 171 [pR g] (rdE g s e n) [900002]
  (fun ps r => ∃ q, wideV s e = .ok q ∧ r = .v (.int .i32 q.1) ∧ ps = [(g, .box [dS s, dI q.2, dI n])]) (XE (wideV s e)) := by
 refine xcall_of Tryz.func171 rfl rfl Tryz.ntmps171 (rs := [.tmp 2]) (tys := [21]) rfl rfl (by simp) (by simp [notFroz]) fun hp hpan => ?_
 unfold wideV at hpan ⊢
 (refine awp_sr fun Y Yh => ?_; simp [go_sem]; ((repeat' (first|(refine ag_x ?_;simp [go_sem])|intro _|apply And.intro|(apply Yh;clear Yh Y)));all_goals first|apply Hold.mk|omega|with_reducible assumption|skip))
 (refine awp_sr fun Y Yh => ?_; simp [go_sem]; ((repeat' (first|(refine ag_x ?_;simp [go_sem])|intro _|apply And.intro|(apply Yh;clear Yh Y)));all_goals first|apply Hold.mk|omega|with_reducible assumption|skip))
 (refine awp_sr fun Y Yh => ?_; simp [go_sem]; ((repeat' (first|(refine ag_x ?_;simp [go_sem])|intro _|apply And.intro|(apply Yh;clear Yh Y)));all_goals first|apply Hold.mk|omega|with_reducible assumption|skip))
 (refine callA_x [900002] (by first|exact .inl ⟨rfl,rfl⟩|exact .inr rfl) (by simp [go_sem]) ?_; intro args ha; simp [go_sem] at ha; subst ha; refine ⟨_, _, _, (hex_spec g s e e e n hl (by omega) (by omega)), (by simp [go_sem]), (fun ch ⟨q, h1, h2⟩ => hpan _ ⟨q, by rw [h1], h2⟩), ?_⟩; rintro ps r hps ⟨m, hm, rfl, rfl⟩; simp [go_sem]; ((repeat' (first|(refine ag_x ?_;simp [go_sem])|intro _|apply And.intro|(apply Yh;clear Yh Y)));all_goals first|apply Hold.mk|omega|with_reducible assumption|skip))
 have hlt := hexV_lt hm
 have hle := hexV_le he hm
 rw [hm] at hpan ⊢
 simp only at hpan ⊢
 (refine awp_sr fun Y Yh => ?_; simp [go_sem]; ((repeat' (first|(refine ag_x ?_;simp [go_sem])|intro _|apply And.intro|(apply Yh;clear Yh Y)));all_goals first|apply Hold.mk|omega|with_reducible assumption|skip))
 refine awp_seq_k fun K1 hK1 => ?_
 (refine awp_sr fun Y Yh => ?_; simp [go_sem]; ((repeat' (first|(refine ag_x ?_;simp [go_sem])|intro _|apply And.intro|(apply Yh;clear Yh Y)));all_goals first|apply Hold.mk|omega|with_reducible assumption|skip))
 (refine awp_if fun T F hT hF => ?_; simp [go_sem]; refine BR.intro (fun h2 => hT ?_) (fun h2 => hF ?_); all_goals clear hT hF T F; try simp at h2)
 ·(refine awp_sr fun Y Yh => ?_; simp [go_sem]; ((repeat' (first|(refine ag_x ?_;simp [go_sem])|intro _|apply And.intro|(apply Yh;clear Yh Y)));all_goals first|apply Hold.mk|omega|with_reducible assumption|skip))
  (refine awp_ret ?_; simp [go_sem, retA, wrap32 m (by omega)])
  rw [if_pos (by omega)]
  simp
  exact ⟨m, e + 6, ⟨rfl, rfl⟩, rfl, by simp⟩
 ·rw [if_neg (by omega)] at hpan
  rw [if_neg (by omega)] at hK1
  refine awp_skip ?_
  refine hK1 _ ?_; clear hK1
  refine awp_seq_k fun K3 hK3 => ?_
  (refine awp_sr fun Y Yh => ?_; simp [go_sem]; ((repeat' (first|(refine ag_x ?_;simp [go_sem])|intro _|apply And.intro|(apply Yh;clear Yh Y)));all_goals first|apply Hold.mk|omega|with_reducible assumption|skip))
  (refine awp_if fun T F hT hF => ?_; simp [go_sem]; refine BR.intro (fun h3 => hT ?_) (fun h3 => hF ?_); all_goals clear hT hF T F; try simp at h3)
  ·rw [if_pos (by omega)] at hpan
   (refine awp_r fun Y Yh => ?_; simp [go_sem]; ((repeat' (first|(refine ag_x ?_;simp [go_sem])|intro _|apply And.intro|(apply Yh;clear Yh Y)));all_goals first|apply Hold.mk|omega|with_reducible assumption|skip))
   (refine callA_x [900002] (by first|exact .inl ⟨rfl,rfl⟩|exact .inr rfl) (by simp [go_sem]) ?_; intro args ha; simp [go_sem] at ha; subst ha; exact ⟨_, _, _, (fail_spec g s (e + 6) n e (by omega)), (by simp [go_sem]), (fun ch h => hpan _ ⟨_, rfl, h⟩), fun _ _ _ h => h.elim⟩)
  ·rw [if_neg (by omega)] at hpan
   rw [if_neg (by omega)] at hK3
   refine awp_skip ?_
   refine hK3 _ ?_; clear hK3
   refine awp_seq_k fun K4 hK4 => ?_
   refine awp_seq ?_
   refine awp_r fun Y Yh => ?_
   simp [go_sem]
   intro gr
   apply Yh; clear Yh Y
   refine Hold.mk ?_
   refine awp_block ?_
   refine awp_loop (σ := Nat) (fun x => ⟨[(0, pR g), (3, dI e), (4, dI m), (37, .sl 1 [[.v (.int .u8 92)], [.v (.int .u8 117)]]), (38, dI 2), (39, dI x)], rdE g s (e + 6 : Nat) n⟩)
    (fun x => x ≤ 2 ∧ (1 ≤ x → s[e + 6]? = some 92) ∧ (2 ≤ x → s[e + 7]? = some 117)) (fun x => 2 - x) 0 ?_ ⟨by omega, by omega, by omega⟩ ?_
   ·(refine cov_of ?_ ?_ <;> simp [go_sem])
   rintro x ⟨hx, i1, i2⟩
   (refine awp_sr fun Y Yh => ?_; simp [go_sem]; ((repeat' (first|(refine ag_x ?_;simp [go_sem])|intro _|apply And.intro|(apply Yh;clear Yh Y)));all_goals first|apply Hold.mk|omega|with_reducible assumption|skip))
   refine awp_seq_k fun K5 hK5 => ?_
   (refine awp_if fun T F hT hF => ?_; simp [go_sem]; refine BR.intro (fun h6 => hT ?_) (fun h6 => hF ?_); all_goals clear hT hF T F; try simp at h6)
   ·refine awp_skip ?_
    refine hK5 _ ?_; clear hK5
    refine awp_seq_k fun K7 hK7 => ?_
    refine awp_block ?_
    have hxx : x = 0 ∨ x = 1 := by omega
    rcases hxx with rfl | rfl
    ·have hx6 : ((e : Int) + 6).toNat = e + 6 := by omega
     (refine awp_sr fun Y Yh => ?_; simp [go_sem]; ((repeat' (first|(refine ag_x ?_;simp [go_sem])|intro _|apply And.intro|(apply Yh;clear Yh Y)));all_goals first|apply Hold.mk|omega|with_reducible assumption|skip))
     refine awp_seq_k fun K8 hK8 => ?_
     ((refine awp_dr (.qs [0, 1, 2, 4, 6, 7, 8, 3, 5, 9, 10, 11] (.nil)) (by kernel_rfl) ?_ ?_ ?_ ?_); (kernel_rfl); (exact (by decide +kernel)); (kernel_rfl); intro Y Yh; ((repeat' (first|(refine ag_x ?_;simp [go_sem])|refine adr_nil ?_|((first|refine adr_qs fun Y Yh=>?_|refine adr_y fun Y Yh=>?_);simp [go_sem])|intro _|apply And.intro|(apply Yh;clear Yh Y)));all_goals first|apply Hold.mk|omega|with_reducible assumption|skip))
     (refine awp_if fun T F hT hF => ?_; simp [go_sem]; refine BR.intro (fun h10 => hT ?_) (fun h10 => hF ?_); all_goals clear hT hF T F; try simp at h10)
     ·(refine awp_r fun Y Yh => ?_; simp [go_sem]; ((repeat' (first|(refine ag_x ?_;simp [go_sem])|intro _|apply And.intro|(apply Yh;clear Yh Y)));all_goals first|apply Hold.mk|omega|with_reducible assumption|skip))
      (refine callA_x [900002] (by first|exact .inl ⟨rfl,rfl⟩|exact .inr rfl) (by simp [go_sem]) ?_; intro args ha; simp [go_sem] at ha; subst ha; exact ⟨_, _, _, (fail_spec g s (e + 6) n s.length (by omega)), (by simp [go_sem]), (fun ch h => hpan _ (by skip; rw [List.getElem?_eq_none (by omega)]; exact ⟨_, rfl, by rw [h]; simp [failP, failE]⟩)), fun _ _ _ h => h.elim⟩)
     ·have hlt0 : e + 6 < s.length := by omega
      have hgs : s[e + 6]? = some s[e + 6] := List.getElem?_eq_getElem hlt0
      refine awp_skip ?_
      refine hK8 _ ?_; clear hK8
      ((refine awp_dr (.qs [0, 1, 2, 4, 5, 6, 8, 11, 3, 7, 9, 10, 12] (.nil)) (by kernel_rfl) ?_ ?_ ?_ ?_); (kernel_rfl); (exact (by decide +kernel)); (kernel_rfl); intro Y Yh; ((repeat' (first|(refine ag_x ?_;simp [go_sem, hx6, hgs])|refine adr_nil ?_|((first|refine adr_qs fun Y Yh=>?_|refine adr_y fun Y Yh=>?_);simp [go_sem, hx6, hgs])|intro _|apply And.intro|(apply Yh;clear Yh Y)));all_goals first|apply Hold.mk|omega|with_reducible assumption|skip))
      (refine awp_if fun T F hT hF => ?_; simp [go_sem]; refine BR.intro (fun h9 => hT ?_) (fun h9 => hF ?_); all_goals clear hT hF T F; try simp at h9)
      ·(refine awp_r fun Y Yh => ?_; simp [go_sem]; ((repeat' (first|(refine ag_x ?_;simp [go_sem])|intro _|apply And.intro|(apply Yh;clear Yh Y)));all_goals first|apply Hold.mk|omega|with_reducible assumption|skip))
       (refine callA_x [900002] (by first|exact .inl ⟨rfl,rfl⟩|exact .inr rfl) (by simp [go_sem]) ?_; intro args ha; simp [go_sem] at ha; subst ha; exact ⟨_, _, _, (fail_spec g s (e + 6) n e (by omega)), (by simp [go_sem]), (fun ch h => hpan _ (by skip; rw [hgs]; simp only; rw [if_pos (by intro q; rw [q] at h9; exact h9 rfl)]; exact ⟨_, rfl, h⟩)), fun _ _ _ h => h.elim⟩)
      ·refine awp_skip ?_
       refine hK7 _ ?_; clear hK7
       (refine awp_r fun Y Yh => ?_; simp [go_sem]; ((repeat' (first|(refine ag_x ?_;simp [go_sem])|intro _|apply And.intro|(apply Yh;clear Yh Y)));all_goals first|apply Hold.mk|omega|with_reducible assumption|skip))
       refine ⟨1, ?_, ?_, by omega⟩
       ·(refine cov_of ?_ ?_ <;> simp [go_sem])
       ·exact ⟨by omega, fun _ => by rw [hgs]; exact congrArg some ((u8i _ 92).1 (h9.trans rfl)), by omega⟩
    ·have hx6 : ((e : Int) + 6 + 1).toNat = e + 7 := by omega
     (refine awp_sr fun Y Yh => ?_; simp [go_sem]; ((repeat' (first|(refine ag_x ?_;simp [go_sem])|intro _|apply And.intro|(apply Yh;clear Yh Y)));all_goals first|apply Hold.mk|omega|with_reducible assumption|skip))
     refine awp_seq_k fun K8 hK8 => ?_
     ((refine awp_dr (.qs [0, 1, 2, 4, 6, 7, 8, 3, 5, 9, 10, 11] (.nil)) (by kernel_rfl) ?_ ?_ ?_ ?_); (kernel_rfl); (exact (by decide +kernel)); (kernel_rfl); intro Y Yh; ((repeat' (first|(refine ag_x ?_;simp [go_sem])|refine adr_nil ?_|((first|refine adr_qs fun Y Yh=>?_|refine adr_y fun Y Yh=>?_);simp [go_sem])|intro _|apply And.intro|(apply Yh;clear Yh Y)));all_goals first|apply Hold.mk|omega|with_reducible assumption|skip))
     (refine awp_if fun T F hT hF => ?_; simp [go_sem]; refine BR.intro (fun h10 => hT ?_) (fun h10 => hF ?_); all_goals clear hT hF T F; try simp at h10)
     ·(refine awp_r fun Y Yh => ?_; simp [go_sem]; ((repeat' (first|(refine ag_x ?_;simp [go_sem])|intro _|apply And.intro|(apply Yh;clear Yh Y)));all_goals first|apply Hold.mk|omega|with_reducible assumption|skip))
      (refine callA_x [900002] (by first|exact .inl ⟨rfl,rfl⟩|exact .inr rfl) (by simp [go_sem]) ?_; intro args ha; simp [go_sem] at ha; subst ha; exact ⟨_, _, _, (fail_spec g s (e + 6) n s.length (by omega)), (by simp [go_sem]), (fun ch h => hpan _ (by rw [i1 (by omega)]; simp only [ne_eq, not_true_eq_false, if_false]; rw [List.getElem?_eq_none (by omega)]; exact ⟨_, rfl, by rw [h]; simp [failP, failE]⟩)), fun _ _ _ h => h.elim⟩)
     ·have hlt1 : e + 7 < s.length := by omega
      have hgs : s[e + 7]? = some s[e + 7] := List.getElem?_eq_getElem hlt1
      refine awp_skip ?_
      refine hK8 _ ?_; clear hK8
      ((refine awp_dr (.qs [0, 1, 2, 4, 5, 6, 8, 11, 3, 7, 9, 10, 12] (.nil)) (by kernel_rfl) ?_ ?_ ?_ ?_); (kernel_rfl); (exact (by decide +kernel)); (kernel_rfl); intro Y Yh; ((repeat' (first|(refine ag_x ?_;simp [go_sem, hx6, hgs])|refine adr_nil ?_|((first|refine adr_qs fun Y Yh=>?_|refine adr_y fun Y Yh=>?_);simp [go_sem, hx6, hgs])|intro _|apply And.intro|(apply Yh;clear Yh Y)));all_goals first|apply Hold.mk|omega|with_reducible assumption|skip))
      (refine awp_if fun T F hT hF => ?_; simp [go_sem]; refine BR.intro (fun h9 => hT ?_) (fun h9 => hF ?_); all_goals clear hT hF T F; try simp at h9)
      ·(refine awp_r fun Y Yh => ?_; simp [go_sem]; ((repeat' (first|(refine ag_x ?_;simp [go_sem])|intro _|apply And.intro|(apply Yh;clear Yh Y)));all_goals first|apply Hold.mk|omega|with_reducible assumption|skip))
       (refine callA_x [900002] (by first|exact .inl ⟨rfl,rfl⟩|exact .inr rfl) (by simp [go_sem]) ?_; intro args ha; simp [go_sem] at ha; subst ha; exact ⟨_, _, _, (fail_spec g s (e + 6) n e (by omega)), (by simp [go_sem]), (fun ch h => hpan _ (by rw [i1 (by omega)]; simp only [ne_eq, not_true_eq_false, if_false]; rw [hgs]; simp only; rw [if_pos (by intro q; rw [q] at h9; exact h9 rfl)]; exact ⟨_, rfl, h⟩)), fun _ _ _ h => h.elim⟩)
      ·refine awp_skip ?_
       refine hK7 _ ?_; clear hK7
       (refine awp_r fun Y Yh => ?_; simp [go_sem]; ((repeat' (first|(refine ag_x ?_;simp [go_sem])|intro _|apply And.intro|(apply Yh;clear Yh Y)));all_goals first|apply Hold.mk|omega|with_reducible assumption|skip))
       refine ⟨2, ?_, ?_, by omega⟩
       ·(refine cov_of ?_ ?_ <;> simp [go_sem])
       ·exact ⟨by omega, fun _ => i1 (by omega), fun _ => by rw [hgs]; exact congrArg some ((u8i _ 117).1 (h9.trans rfl))⟩
   ·have hx2 : x = 2 := by omega
    subst hx2
    refine awp_exit ?_
    simp only [go_sem]
    refine hK4 _ ?_; clear hK4
    rw [i1 (by omega), i2 (by omega)] at hpan
    simp only [ne_eq, not_true_eq_false, if_false] at hpan
    (refine awp_sr fun Y Yh => ?_; simp [go_sem]; ((repeat' (first|(refine ag_x ?_;simp [go_sem])|intro _|apply And.intro|(apply Yh;clear Yh Y)));all_goals first|apply Hold.mk|omega|with_reducible assumption|skip))
    (refine callA_x [900002] (by first|exact .inl ⟨rfl,rfl⟩|exact .inr rfl) (by simp [go_sem]) ?_; intro args ha; simp [go_sem] at ha; subst ha; refine ⟨_, _, _, (hex_spec g s (e + 6) e (e + 6) n hl (by omega) (by omega)), (by simp [go_sem]), (fun ch ⟨q, h1, h2⟩ => hpan _ ⟨q, by rw [h1], h2⟩), ?_⟩; rintro ps r hps ⟨l, hlv, rfl, rfl⟩; simp [go_sem]; ((repeat' (first|(refine ag_x ?_;simp [go_sem])|intro _|apply And.intro|(apply Yh;clear Yh Y)));all_goals first|apply Hold.mk|omega|with_reducible assumption|skip))
    have hlt2 := hexV_lt hlv
    have hle2 := hexV_le (e := e + 6) (by have := get_lt (i2 (by omega)); omega) hlv
    rw [hlv] at hpan
    simp only at hpan
    refine awp_seq_k fun K11 hK11 => ?_
    (refine awp_sr fun Y Yh => ?_; simp [go_sem]; ((repeat' (first|(refine ag_x ?_;simp [go_sem])|intro _|apply And.intro|(apply Yh;clear Yh Y)));all_goals first|apply Hold.mk|omega|with_reducible assumption|skip))
    (refine awp_if fun T F hT hF => ?_; simp [go_sem]; refine BR.intro (fun h12 => hT ?_) (fun h12 => hF ?_); all_goals clear hT hF T F; try simp at h12)
    ·rw [if_pos (by omega)] at hpan
     (refine awp_r fun Y Yh => ?_; simp [go_sem]; ((repeat' (first|(refine ag_x ?_;simp [go_sem])|intro _|apply And.intro|(apply Yh;clear Yh Y)));all_goals first|apply Hold.mk|omega|with_reducible assumption|skip))
     (refine callA_x [900002] (by first|exact .inl ⟨rfl,rfl⟩|exact .inr rfl) (by simp [go_sem]) ?_; intro args ha; simp [go_sem] at ha; subst ha; exact ⟨_, _, _, (fail_spec g s (e + 6) n e (by omega)), (by simp [go_sem]), (fun ch h => hpan _ ⟨_, rfl, h⟩), fun _ _ _ h => h.elim⟩)
    ·refine awp_skip ?_
     refine hK11 _ ?_; clear hK11
     rw [if_neg (by omega)] at hpan
     have es := shl10 ((m : Int) - 55296) (by omega) (by omega)
     (refine awp_sr fun Y Yh => ?_; simp [go_sem]; ((repeat' (first|(refine ag_x ?_;simp [go_sem])|intro _|apply And.intro|(apply Yh;clear Yh Y)));all_goals first|apply Hold.mk|omega|with_reducible assumption|skip))
     (refine awp_sr fun Y Yh => ?_; simp [go_sem, es]; ((repeat' (first|(refine ag_x ?_;simp [go_sem, es])|intro _|apply And.intro|(apply Yh;clear Yh Y)));all_goals first|apply Hold.mk|omega|with_reducible assumption|skip))
     have e3 : (65536 : Int) + ((m : Int) - 55296) * 1024 + l - 56320 = ((65536 + (m - 55296) * 1024 + (l - 56320) : Nat) : Int) := by omega
     (refine awp_ret ?_; simp [go_sem, retA, e3])
     rw [i1 (by omega), i2 (by omega)]
     simp only [if_true, hlv]
     rw [if_neg (by omega)]
     refine ⟨_, _, rfl, ?_, by simp; omega⟩
     have := wrap32 _ (show 65536 + (m - 55296) * 1024 + (l - 56320) < 2147483648 by omega)
     simpa using this
end Go.Proofs.YtkgmecjaejaehaaGreatDoor
namespace Go.Proofs.YtkgmecjaejaehaaGreatDoor
open Go.RowKit
theorem bX : Builder.Extra Tryz.prog Tryz.lays169_ren := Tryz.Builder_Extra_169
set_option maxHeartbeats 1000000 in
set_option maxRecDepth 100000 in
theorem cc_used (b : Nat) (w : World) (h0 : w.cell? ⟨b, 0, none⟩ = some (.pointer (some ⟨b, 0, none⟩))) :
  Calls Tryz.prog 139 #[.pointer (some ⟨b, 0, none⟩)] w fun e w' => e = .returned (.tuple #[]) ∧ w' = w := by
 obtain ⟨j, hj, _⟩ := Option.map_eq_some_iff.1 bX.sizeBuilder
 go_enter Tryz.func139, Tryz.ntmps139
 go_wp2
 rw [Lib.run_neq_ptr_same w _ Tryz.underlying129 hj]
 go_wp2
 go_end0
 exact ⟨rfl, rfl⟩
set_option maxHeartbeats 1000000 in
set_option maxRecDepth 100000 in
theorem cc_fresh (b : Nat) (w : World) (h0 : w.cell? ⟨b, 0, none⟩ = some (.pointer none)) (hsh : w.shape? b = some (132, 2)) (hfz : w.frozen? ⟨b, 0, none⟩ = false) :
  Calls Tryz.prog 139 #[.pointer (some ⟨b, 0, none⟩)] w fun e w' => e = .returned (.tuple #[]) ∧ w' = w.setCell ⟨b, 0, none⟩ (.pointer (some ⟨b, 0, none⟩)) := by
 obtain ⟨j, hj, hjs⟩ := Option.map_eq_some_iff.1 bX.sizeBuilder
 go_enter Tryz.func139, Tryz.ntmps139
 go_wp2
 rw [Lib.run_to_unsafe w ⟨b, 0, none⟩ Tryz.underlying129 Tryz.underlying223 hj (by rw [hjs]; decide) hsh (Nat.zero_lt_succ 1)]
 simp only [Result.andThen]
 rw [Oper.upon_value]
 go_wp2
 rw [run_callFunc_extern Tryz.func178 (by kernel_rfl) (by kernel_rfl) (by kernel_rfl) (e := Extern.AbiNoEscape.same) (by kernel_rfl)]
 rw [Lib.run_noEscape]
 simp only [Result.andThen]
 rw [Oper.upon_value]
 go_wp2
 rw [Lib.run_from_unsafe w ⟨b, 0, none⟩ Tryz.underlying223 Tryz.underlying129 hj hsh bX.liesBuilder]
 simp only [Result.andThen]
 rw [Oper.upon_value]
 go_wp2
 go_end0
 exact ⟨rfl, rfl⟩
section
variable {P : Program} {w : World}
theorem app_exact (t u e : TypeId) (i : TypeInfo) (ht : P.underlying t = some (.slice e)) (hu : P.underlying u = some .string) (hi : P.info? e = some i) (hz : i.zero = some (.int .u8 0))
  (hsize : i.size = 1) (hby : i.bytes = 1) (v : Value) (n : Nat) (xs : List Value) (hown : w.ownsRowF 0 e 1 v n xs) (s : ByteArray) (h63 : n + s.size ≤ maxLen) (hbytes : n + s.size ≤ 140737488355328) :
  ∃ v' w', (∀ ty, (Builtin.append_ #[t, u] ty #[v, .string s]).run P w = .ok v' w') ∧ w'.ownsRowF 0 e 1 v' (n + s.size) (xs ++ Lib.strCells s) ∧ w.grownBy w' v.ownBlock ∧
   (v'.ownBlock = v.ownBlock ∨ ∀ k, v'.ownBlock = some k → w.heap.size ≤ k) := by
 obtain ⟨v', w', h1, h2, h3, _⟩ := Lib.run_append_own_stringF (P := P) w 0 t u t e i ht hu hi hz hsize hby v n xs hown s h63 hbytes (Nat.zero_le _)
 refine ⟨v', w', fun _ => h1, h2, h3, ?_⟩
 have hsmall : n + s.size ≤ 9223372036854775807 := by simp only [maxLen] at h63; omega
 rcases hown.2 with ⟨rfl, rfl⟩ | ⟨g, cap, cur, fz, rfl, hbg, hg, hfz, hnc, hcm, hcs, htake⟩
 ·obtain ⟨v2, w2, q1, q2, _, _⟩ := Lib.run_append_own_string (P := P) w w.heap.size t u t e i ht hu hi hz hsize hby (.slice none 0 0) 0 xs ⟨hown.1, .inl ⟨rfl, rfl⟩⟩ s h63 hbytes (Nat.le_refl _)
  rw [h1] at q1
  injection q1 with q1 q1'
  subst q1 q1'
  refine .inr fun k hk => ?_
  rcases q2.2 with ⟨hv, _⟩ | ⟨g, cap, cur, hv, hb, _⟩
  ·rw [hv] at hk; cases hk
  ·rw [hv] at hk
   simp only [Value.ownBlock, Option.some.injEq] at hk
   omega
 ·have hxl : xs.length = n := by simpa using hown.1
  by_cases hroom : n + s.size ≤ cap
  ·have hr := Lib.run_append_room_stringF (P := P) w t u t e i ht hu hi hsize g n cap cur fz hg (by simpa using hfz) s hroom (by omega)
   rw [h1] at hr
   injection hr with q1 q1'
   subst q1
   exact .inl rfl
  ·have holds : ∀ j u, xs[j]? = some u → w.cell? ((⟨g, 0, none⟩ : Addr).add j) = some u := hown.cells (g := g) rfl
   have hr := Lib.run_append_grow_string (P := P) w t u t e i (.int .u8 0) ht hu hi hz ⟨g, 0, none⟩ n cap xs (by rw [hsize]; simpa using hxl) holds s (by omega) (by omega) (by rw [hby]; exact growslice_fits (by omega) (by omega))
   rw [h1] at hr
   injection hr with q1 q1'
   subst q1
   refine .inr fun k hk => ?_
   simp [Value.ownBlock] at hk
   omega
theorem wpList_app {ops : Array Oper} {rest : List Oper} {o : Oper} {a : Act} {Q : Exit → Act → World → Prop} (hgd : o.guard = none) (sl x : Operand) (t u : TypeId)
  (ho : o.op = .call { callee := .builtin .append, args := #[sl, x], argTypes := #[t, u] }) (v : Value) (hs : a.eval sl = v) (s : ByteArray) (hx : a.eval x = .string s)
  {v' : Value} {w' : World} (hr : ∀ ty, (Builtin.append_ #[t, u] ty #[v, .string s]).run P w = .ok v' w') (h : wpList P ops Q rest (a.put o.dst v') w') : wpList P ops Q (o :: rest) a w := by
 refine wpList_plain hgd fun K hK => ?_
 unfold Oper.wp execOp
 simp only [ho, resolve, invoke, builtin, Sem.run_bind, Sem.run_pure, Result.andThen_ok, List.map_toArray, List.map_cons, List.map_nil, hs, hx, hr]
 exact hK _ _ h
end
set_option maxHeartbeats 2000000 in
set_option maxRecDepth 100000 in
theorem ws_calls (b : Nat) (p v : Value) (l : List UInt8) (s : ByteArray) (w : World) (hb : w.heap[b]? = some (.cells #[p, v] 132 (0, 0))) (hp : p = .pointer none ∨ p = .pointer (some ⟨b, 0, none⟩))
  (hown : w.ownsRowF 0 5 1 v l.length (Lib.byteCells l)) (hne : v.ownBlock ≠ some b) (hlen : l.length + s.size ≤ 140737488355328) :
  Calls Tryz.prog 90 #[.pointer (some ⟨b, 0, none⟩), .string s] w fun e w' => e = .returned (.tuple #[.int .i64 s.size, .nilIface]) ∧
   ∃ v', w'.heap[b]? = some (.cells #[.pointer (some ⟨b, 0, none⟩), v'] 132 (0, 0)) ∧ w'.ownsRowF 0 5 1 v' (l.length + s.size) (Lib.byteCells l ++ Lib.strCells s) ∧
    (v'.ownBlock = v.ownBlock ∨ ∀ k, v'.ownBlock = some k → w.heap.size ≤ k) ∧ v'.ownBlock ≠ some b ∧
    w'.os = w.os ∧ w'.tape = w.tape ∧ w'.output = w.output ∧ w.heap.size ≤ w'.heap.size ∧ ∀ k, k < w.heap.size → k ≠ b → v.ownBlock ≠ some k → w'.heap[k]? = w.heap[k]? := by
 obtain ⟨i0, hi, hz0, hz1, hz2⟩ := info_parts bX.infoByte
 have hlt : b < w.heap.size := by
  rcases Nat.lt_or_ge b w.heap.size with h' | h'
  ·exact h'
  ·simp [Array.getElem?_eq_none h'] at hb
 have hcc : Calls Tryz.prog 139 #[.pointer (some ⟨b, 0, none⟩)] w fun e w' => e = .returned (.tuple #[]) ∧ w'.heap[b]? = some (.cells #[.pointer (some ⟨b, 0, none⟩), v] 132 (0, 0)) ∧ w'.os = w.os ∧ w'.tape = w.tape ∧ w'.output = w.output ∧ w'.heap.size = w.heap.size ∧
   ∀ k, k ≠ b → w'.heap[k]? = w.heap[k]? := by
  rcases hp with rfl | rfl
  ·refine (cc_fresh b w (by rw [Lib.cell_of_heap hb]; rfl) (by simp [World.shape?, hb]) (Lib.frozen_of_heap hb 0)).mono ?_
   rintro e w' ⟨rfl, rfl⟩
   exact ⟨rfl, heap_setCell_same _ _ _ _ _ _ hb, rfl, rfl, rfl, by simp, fun k hk => heap_setCell_other _ _ _ _ hk⟩
  ·refine (cc_used b w (by rw [Lib.cell_of_heap hb]; rfl)).mono ?_
   rintro e w' ⟨rfl, rfl⟩
   exact ⟨rfl, hb, rfl, rfl, rfl, rfl, fun _ _ => rfl⟩
 go_enter Tryz.func90, Tryz.ntmps90
 go_wp2_with (go_at_call 139; refine hcc.mono ?_)
 rintro e w1 ⟨rfl, hbk, ho1, ho2, ho3, hs1, hk1⟩
 have hown1 : w1.ownsRowF 0 5 1 v l.length (Lib.byteCells l) :=
  hown.kept (row := some b) ⟨ho1, ho2, ho3, by omega, fun k _ hk => hk1 k (fun e => hk (by simp [e]))⟩ (Or.inr hne)
 have c0 : w1.cell? ⟨b, 0, none⟩ = some (.pointer (some ⟨b, 0, none⟩)) := by rw [Lib.cell_of_heap hbk]; rfl
 have c1 : w1.cell? ⟨b, 1, none⟩ = some v := by rw [Lib.cell_of_heap hbk]; rfl
 obtain ⟨v', w2, hrun, hown', hgrow, hat⟩ := app_exact (P := Tryz.prog) (w := w1) 130 9 5 i0 Tryz.underlying130 Tryz.underlying9 hi hz0 hz1 hz2 v l.length _ hown1 s (by unfold maxLen; omega) hlen
 have hlt1 : b < w1.heap.size := by omega
 have hb2 : w2.heap[b]? = some (.cells #[.pointer (some ⟨b, 0, none⟩), v] 132 (0, 0)) := by
  rw [hgrow.block b hlt1 (fun e => hne e.symm)]
  exact hbk
 have d0 : w2.cell? ⟨b, 0, none⟩ = some (.pointer (some ⟨b, 0, none⟩)) := by rw [Lib.cell_of_heap hb2]; rfl
 have d1 : w2.cell? ⟨b, 1, none⟩ = some v := by rw [Lib.cell_of_heap hb2]; rfl
 have f1 : w2.frozen? ⟨b, 1, none⟩ = false := Lib.frozen_of_heap hb2 1
 have hne' : v'.ownBlock ≠ some b := by
  rcases hat with h | h
  ·rw [h]; exact hne
  ·intro e; have := h b e; omega
 obtain ⟨ao, n', cap, rfl⟩ : ∃ ao n' cap, v' = .slice ao n' cap := by
  rcases hown'.2 with ⟨hv, _⟩ | ⟨g, cap, cur, fz, hv, _⟩
  ·exact ⟨_, _, _, hv⟩
  ·exact ⟨_, _, _, hv⟩
 go_wp2_with (at_builtin; refine wpList_app rfl _ _ 130 9 rfl _ rfl s rfl hrun ?_)
 go_ret2
 refine ⟨rfl, _, heap_setCell_same _ _ _ _ _ _ hb2, ?_, ?_, hne', hgrow.os.trans ho1, hgrow.tape.trans ho2, hgrow.output.trans ho3, ?_, ?_⟩
 ·exact hown'.kept (row := some b) ⟨rfl, rfl, rfl, by simp, fun k _ hk => heap_setCell_other _ _ _ _ (fun e => hk (by simp [e]))⟩ (Or.inr hne')
 ·rcases hat with h | h
  ·exact .inl h
  ·exact .inr fun k hk => by have := h k hk; omega
 ·have := hgrow.size; simp; omega
 ·intro k hk hkb hkv
  rw [heap_setCell_other _ _ _ _ hkb, hgrow.block k (by omega) (fun e => hkv e.symm), hk1 k hkb]
theorem freeze_other (w : World) (ad : Addr) (m k : Nat) (h : k ≠ ad.block) : (w.freeze ad m).heap[k]? = w.heap[k]? := by
 unfold World.freeze
 by_cases hm : m = 0
 ·simp [hm]
 ·rw [if_neg hm]
  simp only [Array.getElem?_modify]
  rw [if_neg (fun e => h e.symm)]
theorem freeze_rest (w : World) (ad : Addr) (m : Nat) : (w.freeze ad m).heap.size = w.heap.size ∧ (w.freeze ad m).os = w.os ∧ (w.freeze ad m).tape = w.tape ∧ (w.freeze ad m).output = w.output := by
 unfold World.freeze
 by_cases hm : m = 0
 ·simp [hm]
 ·rw [if_neg hm]
  exact ⟨by simp, rfl, rfl, rfl⟩
set_option maxHeartbeats 2000000 in
set_option maxRecDepth 100000 in
theorem str_calls (b : Nat) (p v : Value) (l : List UInt8) (w : World) (hbk : w.heap[b]? = some (.cells #[p, v] 132 (0, 0))) (hown : w.ownsRowF 0 5 1 v l.length (Lib.byteCells l)) (hne : v.ownBlock ≠ some b) (h0 : l ≠ []) :
  Calls Tryz.prog 91 #[.pointer (some ⟨b, 0, none⟩)] w fun e w' => e = .returned (.string ⟨l.toArray⟩) ∧ w'.heap[b]? = some (.cells #[p, v] 132 (0, 0)) ∧ w'.ownsRowF 0 5 1 v l.length (Lib.byteCells l) ∧
   w'.os = w.os ∧ w'.tape = w.tape ∧ w'.output = w.output ∧ w.heap.size ≤ w'.heap.size ∧ ∀ k, k ≠ b → v.ownBlock ≠ some k → w'.heap[k]? = w.heap[k]? := by
 have hl0 : l.length ≠ 0 := by simpa using h0
 obtain ⟨g, cap, cur, fz, rfl, hbg, hg, hfz, hnc, hcm, hcs, htake⟩ : ∃ g cap cur fz, v = .slice (some ⟨g, 0, none⟩) l.length cap ∧ 0 ≤ g ∧ w.heap[g]? = some (.cells cur 5 fz) ∧ fz.2 ≤ l.length * 1 ∧ l.length ≤ cap ∧ cap ≤ maxLen ∧ cur.size = cap * 1 ∧ cur.toList.take (l.length * 1) = Lib.byteCells l := by
  rcases hown.2 with ⟨_, hz⟩ | ⟨g, cap, cur, fz, hv, r⟩
  ·exact absurd hz hl0
  ·exact ⟨g, cap, cur, fz, hv, r⟩
 have hgb : g ≠ b := fun e => hne (by simp [Value.ownBlock, e])
 have c1 : w.drew.cell? ⟨b, 1, none⟩ = some (.slice (some ⟨g, 0, none⟩) l.length cap) := by
  have : w.drew.heap[b]? = some (.cells #[p, .slice (some ⟨g, 0, none⟩) l.length cap] 132 (0, 0)) := hbk
  rw [Lib.cell_of_heap this]; rfl
 have hSD : (Builtin.unsafeSliceData_ #[130] 197 #[.slice (some ⟨g, 0, none⟩) l.length cap]).run Tryz.prog w.drew = .ok (.pointer (some ⟨g, 0, none⟩)) w.drew :=
  Lib.run_unsafeSliceData_row _ _ _ _ _ _ (by omega)
 have hUS : (Builtin.unsafeString_ #[197, 3] 9 #[.pointer (some ⟨g, 0, none⟩), .int .i64 l.length]).run Tryz.prog w.drew = .ok (.string ⟨l.toArray⟩) (w.drew.freeze ⟨g, 0, none⟩ l.length) := by
  refine Lib.run_unsafeString_row w.drew 197 3 9 5 Tryz.underlying197 bX.cellsByte g cur.size (by have hg' : w.drew.heap[g]? = some (.cells cur 5 fz) := hg; simp [World.shape?, hg']) l h0 (by omega) (by unfold maxLen at hcm; omega) ?_
  intro j x hx
  have := hown.cells (g := g) rfl j (.int .u8 x.toNat) (by simp [Lib.byteCells, hx])
  exact this
 have hA : Lib.BuilderAtF 132 5 0 b p (Lib.byteCells l) w.drew := ⟨Nat.zero_le _, _, hbk, by rw [Lib.byteCells_length]; exact hown, hne⟩
 have hF := hA.froze (g := g) (cap := cap) (by rw [Lib.byteCells_length]; exact c1)
 rw [Lib.byteCells_length] at hF
 obtain ⟨_, v', hb', hown', _⟩ := hF
 rw [Lib.byteCells_length] at hown'
 have hb2 : (w.drew.freeze ⟨g, 0, none⟩ l.length).heap[b]? = some (.cells #[p, .slice (some ⟨g, 0, none⟩) l.length cap] 132 (0, 0)) := (freeze_other _ _ _ _ (fun e => hgb e.symm)).trans hbk
 have hv : v' = .slice (some ⟨g, 0, none⟩) l.length cap := by
  rw [hb2] at hb'
  simp at hb'
  exact hb'.symm
 subst hv
 obtain ⟨f1, f2, f3, f4⟩ := freeze_rest w.drew ⟨g, 0, none⟩ l.length
 have hend : ∀ k, k ≠ b → (Value.slice (some ⟨g, 0, none⟩) l.length cap).ownBlock ≠ some k → (w.drew.freeze ⟨g, 0, none⟩ l.length).heap[k]? = w.heap[k]? :=
  fun k _ hk => freeze_other _ _ _ _ (fun e => hk (by simp [Value.ownBlock, e]))
 have mixed := Tryz.lays169.mixed
 go_enter Tryz.func91, Tryz.ntmps91
 go_wp2
 go_region_o
 all_goals (go_wp2; go_ret; exact ⟨rfl, hb2, hown', f2, f3, f4, Nat.le_of_eq f1.symm, hend⟩)
end Go.Proofs.YtkgmecjaejaehaaGreatDoor
namespace Go.Proofs.YtkgmecjaejaehaaGreatDoor
open Go.Eng Go.Js
set_option maxRecDepth 20000
theorem strCells_eq (s : List UInt8) : Lib.strCells ⟨s.toArray⟩ = Lib.byteCells s := by
 simp [Lib.strCells, Lib.byteCells]
theorem ws_spec (nb nr gb gr : Nat) (l s : List UInt8) (h1 : 900000 ≤ nb) (h2 : 900000 ≤ nr) (hd : nb ≠ nr) (hlen : l.length + s.length ≤ 140737488355328) :
  ACall Tryz.prog 90 [.ptr nb gb 0, dS s] [(nb, (gb, .bld 132 nr gr)), (nr, (gr, .brow 5 l))] [nb, nr] fun ps r => ∃ gr', ps = [(gb, .bld 132 nr gr'), (gr', .brow 5 (l ++ s))] ∧ r = .tup [dI s.length, .v .nilIface] := by
 refine acall_bld (xs := [.string ⟨s.toArray⟩]) (x := .tuple #[.int .i64 s.length, .nilIface]) ⟨_, Tryz.func90, rfl, rfl⟩ h1 h2 hd (fun C w => ?_) fun b p v w _ hb hp hown hne => ?_
 ·refine .tup _ _ rfl fun j c u hc hu => ?_
  match j, hc, hu with
  | 0, hc, hu => simp at hc hu; subst hc hu; exact .v _
  | 1, hc, hu => simp at hc hu; subst hc hu; exact .v _
  | j + 2, hc, hu => simp at hc
 ·refine (ws_calls b p v l ⟨s.toArray⟩ w hb hp hown hne (by simpa [ByteArray.size] using hlen)).mono ?_
  rintro e w' ⟨he, v', q1, q2, q3, q4, q5, q6, q7, q8, q9⟩
  refine ⟨by simpa [ByteArray.size] using he, _, v', q1, .inr rfl, ?_, q3, q4, q5, q6, q7, q8, q9⟩
  rw [strCells_eq] at q2
  simpa [ByteArray.size, Lib.byteCells] using q2
theorem str_spec (nb nr gb gr : Nat) (l : List UInt8) (h1 : 900000 ≤ nb) (h2 : 900000 ≤ nr) (hd : nb ≠ nr) (h0 : l ≠ []) :
  ACall Tryz.prog 91 [.ptr nb gb 0] [(nb, (gb, .bld 132 nr gr)), (nr, (gr, .brow 5 l))] [nb, nr] fun ps r => ∃ gr', ps = [(gb, .bld 132 nr gr'), (gr', .brow 5 l)] ∧ r = dS l := by
 refine acall_bld (xs := []) (x := .string ⟨l.toArray⟩) ⟨_, Tryz.func91, rfl, rfl⟩ h1 h2 hd (fun C w => .v _) fun b p v w _ hb hp hown hne => ?_
 refine (str_calls b p v l w hb hown hne h0).mono ?_
 rintro e w' ⟨he, q1, q2, q3, q4, q5, q6, q7⟩
 exact ⟨he, p, v, q1, hp, q2, .inl rfl, hne, q3, q4, q5, q6, fun k _ => q7 k⟩
end Go.Proofs.YtkgmecjaejaehaaGreatDoor
namespace Go.Proofs.YtkgmecjaejaehaaGreatDoor
open Go.Eng Go.Js Go.RowKit
set_option maxRecDepth 20000
theorem us_none (p : Option Addr) (w : World) : (Builtin.unsafeString_ #[197, 3] 9 #[.pointer p, .int .i64 0]).run Tryz.prog w = .ok (.string ⟨#[]⟩) w := Lib.run_unsafeString_none (P := Tryz.prog) w 115 3 9 p
set_option maxHeartbeats 4000000 in
set_option maxRecDepth 100000 in
theorem str0_calls (b : Nat) (p v : Value) (w : World) (hbk : w.heap[b]? = some (.cells #[p, v] 132 (0, 0))) (hown : w.ownsRowF 0 5 1 v 0 (Lib.byteCells [])) (hne : v.ownBlock ≠ some b) :
  Calls Tryz.prog 91 #[.pointer (some ⟨b, 0, none⟩)] w fun e w' => e = .returned (.string ⟨#[]⟩) ∧ w'.heap[b]? = some (.cells #[p, v] 132 (0, 0)) ∧ w'.ownsRowF 0 5 1 v 0 (Lib.byteCells []) ∧
   w'.os = w.os ∧ w'.tape = w.tape ∧ w'.output = w.output ∧ w.heap.size ≤ w'.heap.size ∧ ∀ k, k < w.heap.size → w'.heap[k]? = w.heap[k]? := by
 have hlt : b < w.heap.size := by
  rcases Nat.lt_or_ge b w.heap.size with h' | h'
  ·exact h'
  ·simp [Array.getElem?_eq_none h'] at hbk
 have hUS := us_none
 have mixed := Tryz.lays169.mixed
 rcases hown.2 with ⟨rfl, _⟩ | ⟨g, cap, cur, fz, rfl, hbg, hg, hfz, hnc, hcm, hcs, htake⟩
 ·have c1 : w.drew.cell? ⟨b, 1, none⟩ = some (.slice none 0 0) := by
   have : w.drew.heap[b]? = some (.cells #[p, .slice none 0 0] 132 (0, 0)) := hbk
   rw [Lib.cell_of_heap this]; rfl
  have hSD : (Builtin.unsafeSliceData_ #[130] 197 #[.slice none 0 0]).run Tryz.prog w.drew = .ok (.pointer none) w.drew := rfl
  go_enter Tryz.func91, Tryz.ntmps91
  go_wp2
  go_region_o
  all_goals (go_wp2; go_ret; exact ⟨rfl, hbk, hown, rfl, rfl, rfl, Nat.le_refl _, fun _ _ => rfl⟩)
 ·by_cases hc0 : cap = 0
  ·subst hc0
   have c1 : w.drew.cell? ⟨b, 1, none⟩ = some (.slice (some ⟨g, 0, none⟩) 0 0) := by
    have : w.drew.heap[b]? = some (.cells #[p, .slice (some ⟨g, 0, none⟩) 0 0] 132 (0, 0)) := hbk
    rw [Lib.cell_of_heap this]; rfl
   have hSD : (Builtin.unsafeSliceData_ #[130] 197 #[.slice (some ⟨g, 0, none⟩) 0 0]).run Tryz.prog w.drew = .ok (.pointer (some ⟨w.drew.heap.size, 0, none⟩)) (w.drew.alloc (.view ⟨g, 0, none⟩ 5)) :=
    Lib.run_unsafeSliceData_zero w.drew _ _ 5 Tryz.underlying197 ⟨g, 0, none⟩ 0 (5, cur.size) (by have hg' : w.drew.heap[g]? = some (.cells cur 5 fz) := hg; simp [World.shape?, hg'])
   have c2 : (w.drew.alloc (.view ⟨g, 0, none⟩ 5)).cell? ⟨b, 1, none⟩ = some (.slice (some ⟨g, 0, none⟩) 0 0) := by
    have : (w.drew.alloc (.view ⟨g, 0, none⟩ 5)).heap[b]? = _ := (Lib.alloc_old w.drew _ b hlt).trans hbk
    rw [Lib.cell_of_heap this]; rfl
   have c3 : (w.alloc (.view ⟨g, 0, none⟩ 5)).drew.cell? ⟨b, 1, none⟩ = some (.slice (some ⟨g, 0, none⟩) 0 0) := c2
   have c0 : w.cell? ⟨b, 1, none⟩ = some (.slice (some ⟨g, 0, none⟩) 0 0) := c1
   have hrest : ∀ k, k < w.heap.size → (w.drew.alloc (.view ⟨g, 0, none⟩ 5)).heap[k]? = w.heap[k]? := fun k hk => Lib.alloc_old w.drew _ k hk
   have hglt : g < w.heap.size := by
    rcases Nat.lt_or_ge g w.heap.size with h' | h'
    ·exact h'
    ·simp [Array.getElem?_eq_none h'] at hg
   have hown' : (w.drew.alloc (.view ⟨g, 0, none⟩ 5)).ownsRowF 0 5 1 (.slice (some ⟨g, 0, none⟩) 0 0) 0 (Lib.byteCells []) := ⟨hown.1, .inr ⟨g, 0, cur, fz, rfl, hbg, (hrest g hglt).trans hg, hfz, hnc, hcm, hcs, htake⟩⟩
   go_enter Tryz.func91, Tryz.ntmps91
   go_wp2
   go_region_o
   all_goals (go_wp2; go_ret; exact ⟨rfl, (hrest b hlt).trans hbk, hown', rfl, rfl, rfl, (Same.alloc w.drew _).1, hrest⟩)
  ·have c1 : w.drew.cell? ⟨b, 1, none⟩ = some (.slice (some ⟨g, 0, none⟩) 0 cap) := by
    have : w.drew.heap[b]? = some (.cells #[p, .slice (some ⟨g, 0, none⟩) 0 cap] 132 (0, 0)) := hbk
    rw [Lib.cell_of_heap this]; rfl
   have hSD : (Builtin.unsafeSliceData_ #[130] 197 #[.slice (some ⟨g, 0, none⟩) 0 cap]).run Tryz.prog w.drew = .ok (.pointer (some ⟨g, 0, none⟩)) w.drew :=
    Lib.run_unsafeSliceData_row _ _ _ _ _ _ hc0
   clear hc0
   go_enter Tryz.func91, Tryz.ntmps91
   go_wp2
   go_region_o
   all_goals (go_wp2; go_ret; exact ⟨rfl, hbk, hown, rfl, rfl, rfl, Nat.le_refl _, fun _ _ => rfl⟩)
theorem strA_spec (nb nr gb gr : Nat) (l : List UInt8) (h1 : 900000 ≤ nb) (h2 : 900000 ≤ nr) (hd : nb ≠ nr) :
  ACall Tryz.prog 91 [.ptr nb gb 0] [(nb, (gb, .bld 132 nr gr)), (nr, (gr, .brow 5 l))] [nb, nr] fun ps r => ∃ gr', ps = [(gb, .bld 132 nr gr'), (gr', .brow 5 l)] ∧ r = dS l := by
 cases l with
 | cons x l => exact str_spec nb nr gb gr (x :: l) h1 h2 hd (by simp)
 | nil =>
  refine acall_bld (xs := []) (x := .string ⟨#[]⟩) ⟨_, Tryz.func91, rfl, rfl⟩ h1 h2 hd (fun C w => .v _) fun b p v w _ hb hp hown hne => ?_
  refine (str0_calls b p v w hb hown hne).mono ?_
  rintro e w' ⟨he, q1, q2, q3, q4, q5, q6, q7⟩
  refine ⟨he, p, v, q1, hp, q2, .inl rfl, hne, q3, q4, q5, q6, fun k hk _ _ => q7 k hk⟩
section
variable {P : Program} {w : World}
theorem app_eq (t u ty ty' e : TypeId) (i : TypeInfo) (ht : P.underlying t = some (.slice e)) (hu : P.underlying u = some .string) (hi : P.info? e = some i) (hz : i.zero = some (.int .u8 0))
  (hsize : i.size = 1) (hby : i.bytes = 1) (base : Option Addr) (sLen sCap : Nat) (a : Addr) (c : Nat) (s : ByteArray) (hnews : ∀ j v, (Lib.strCells s)[j]? = some v → w.cell? (a.add j) = some v)
  (hbytes : sLen + s.size ≤ 140737488355328) (hold : ∃ cs, (Builtin.firstCells 1 sLen (.slice base sLen sCap)).run P w.drew = .ok cs w.drew) :
  (Builtin.append_ #[t, t] ty #[.slice base sLen sCap, .slice (some a) s.size c]).run P w = (Builtin.append_ #[t, u] ty' #[.slice base sLen sCap, .string s]).run P w := by
 have hl : (Lib.strCells s).length = s.size * 1 := by rw [Lib.strCells_length, Nat.mul_one]
 have hf := run_firstCells_some (P := P) w 1 s.size a s.size c (Lib.strCells s) hl hnews
 have hf2 := run_firstCells_some (P := P) w.drew 1 s.size a s.size c (Lib.strCells s) hl (by simpa using hnews)
 have hg := Lib.run_firstCells_string (P := P) w 1 s
 have hg2 := Lib.run_firstCells_string (P := P) w.drew 1 s
 by_cases hn : sLen + s.size ≤ sCap
 ·simp [Builtin.append_, run_underlying ht, run_underlying hu, sizeOf, typeInfo, hi, hsize, Builtin.lenOf, hn, hf, hg]
 ·have h63' : ¬ (9223372036854775807 < ((sLen : Int) + (s.size : Int))) := by omega
  have h48 := growslice_fits (need := sLen + s.size) (old := sCap) (bytes := 1) (by omega) (by omega)
  have h48' : ¬ (281474976710656 < Builtin.nextslicecap (sLen + s.size) sCap * i.bytes) := by rw [hby]; omega
  simp [Builtin.append_, run_underlying ht, run_underlying hu, sizeOf, typeInfo, zeroValue, hi, hz, hsize, Builtin.lenOf, hn, h63', h48', Question.forced]
  obtain ⟨cs, hc⟩ := hold
  simp [hc, hf2, hg2]
theorem app_row (t u e : TypeId) (i : TypeInfo) (ht : P.underlying t = some (.slice e)) (hu : P.underlying u = some .string) (hi : P.info? e = some i) (hz : i.zero = some (.int .u8 0))
  (hsize : i.size = 1) (hby : i.bytes = 1) (v : Value) (n : Nat) (xs : List Value) (hown : w.ownsRowF 0 e 1 v n xs) (a : Addr) (c : Nat) (s : ByteArray) (hnews : ∀ j v, (Lib.strCells s)[j]? = some v → w.cell? (a.add j) = some v)
  (hbytes : n + s.size ≤ 140737488355328) :
  ∃ v' w', (∀ ty, (Builtin.append_ #[t, t] ty #[v, .slice (some a) s.size c]).run P w = .ok v' w') ∧ w'.ownsRowF 0 e 1 v' (n + s.size) (xs ++ Lib.strCells s) ∧ w.grownBy w' v.ownBlock ∧
   (v'.ownBlock = v.ownBlock ∨ ∀ k, v'.ownBlock = some k → w.heap.size ≤ k) := by
 obtain ⟨v', w', h1, h2, h3, h4⟩ := app_exact (P := P) (w := w) t u e i ht hu hi hz hsize hby v n xs hown s (by unfold maxLen; omega) hbytes
 refine ⟨v', w', fun ty => ?_, h2, h3, h4⟩
 have hown2 := hown
 rcases hown2.2 with ⟨rfl, rfl⟩ | ⟨g, cap, cur, fz, rfl, hbg, hg, hfz, hnc, hcm, hcs, htake⟩
 ·rw [app_eq t u ty ty e i ht hu hi hz hsize hby none 0 0 a c s hnews hbytes ⟨_, run_firstCells_none (P := P) (w := w.drew) 1 0 0 0⟩]
  exact h1 ty
 ·rw [app_eq t u ty ty e i ht hu hi hz hsize hby (some ⟨g, 0, none⟩) n cap a c s hnews hbytes ⟨_, run_firstCells_some (P := P) w.drew 1 n ⟨g, 0, none⟩ n cap xs hown.1 (by simpa using hown.cells (g := g) rfl)⟩]
  exact h1 ty
end
theorem wpList_row {P : Program} {w : World} {ops : Array Oper} {rest : List Oper} {o : Oper} {a : Act} {Q : Exit → Act → World → Prop} (hgd : o.guard = none) (sl x : Operand) (t : TypeId)
  (ho : o.op = .call { callee := .builtin .append, args := #[sl, x], argTypes := #[t, t] }) (v : Value) (hs : a.eval sl = v) (y : Value) (hx : a.eval x = y)
  {v' : Value} {w' : World} (hr : ∀ ty, (Builtin.append_ #[t, t] ty #[v, y]).run P w = .ok v' w') (h : wpList P ops Q rest (a.put o.dst v') w') : wpList P ops Q (o :: rest) a w := by
 refine wpList_plain hgd fun K hK => ?_
 unfold Oper.wp execOp
 simp only [ho, resolve, invoke, builtin, Sem.run_bind, Sem.run_pure, Result.andThen_ok, List.map_toArray, List.map_cons, List.map_nil, hs, hx, hr]
 exact hK _ _ h
theorem ccall (b : Nat) (p v : Value) (w : World) (hb : w.heap[b]? = some (.cells #[p, v] 132 (0, 0))) (hp : p = .pointer none ∨ p = .pointer (some ⟨b, 0, none⟩)) :
  Calls Tryz.prog 139 #[.pointer (some ⟨b, 0, none⟩)] w fun e w' => e = .returned (.tuple #[]) ∧ w'.heap[b]? = some (.cells #[.pointer (some ⟨b, 0, none⟩), v] 132 (0, 0)) ∧ w'.os = w.os ∧ w'.tape = w.tape ∧ w'.output = w.output ∧ w'.heap.size = w.heap.size ∧
   ∀ k, k ≠ b → w'.heap[k]? = w.heap[k]? := by
 rcases hp with rfl | rfl
 ·refine (cc_fresh b w (by rw [Lib.cell_of_heap hb]; rfl) (by simp [World.shape?, hb]) (Lib.frozen_of_heap hb 0)).mono ?_
  rintro e w' ⟨rfl, rfl⟩
  exact ⟨rfl, heap_setCell_same _ _ _ _ _ _ hb, rfl, rfl, rfl, by simp, fun k hk => heap_setCell_other _ _ _ _ hk⟩
 ·refine (cc_used b w (by rw [Lib.cell_of_heap hb]; rfl)).mono ?_
  rintro e w' ⟨rfl, rfl⟩
  exact ⟨rfl, hb, rfl, rfl, rfl, rfl, fun _ _ => rfl⟩
set_option maxHeartbeats 2000000 in
set_option maxRecDepth 100000 in
theorem wb_calls (b : Nat) (p v : Value) (l : List UInt8) (c : UInt8) (w : World) (hb : w.heap[b]? = some (.cells #[p, v] 132 (0, 0))) (hp : p = .pointer none ∨ p = .pointer (some ⟨b, 0, none⟩))
  (hown : w.ownsRowF 0 5 1 v l.length (Lib.byteCells l)) (hne : v.ownBlock ≠ some b) (hlen : l.length + 1 ≤ 140737488355328) :
  Calls Tryz.prog 89 #[.pointer (some ⟨b, 0, none⟩), .int .u8 c.toNat] w fun e w' => e = .returned .nilIface ∧
   ∃ v', w'.heap[b]? = some (.cells #[.pointer (some ⟨b, 0, none⟩), v'] 132 (0, 0)) ∧ w'.ownsRowF 0 5 1 v' (l.length + 1) (Lib.byteCells (l ++ [c])) ∧
    (v'.ownBlock = v.ownBlock ∨ ∀ k, v'.ownBlock = some k → w.heap.size ≤ k) ∧ v'.ownBlock ≠ some b ∧
    w'.os = w.os ∧ w'.tape = w.tape ∧ w'.output = w.output ∧ w.heap.size ≤ w'.heap.size ∧ ∀ k, k < w.heap.size → k ≠ b → v.ownBlock ≠ some k → w'.heap[k]? = w.heap[k]? := by
 obtain ⟨i0, hi, hz0, hz1, hz2⟩ := info_parts bX.infoByte
 have hlt : b < w.heap.size := by
  rcases Nat.lt_or_ge b w.heap.size with h' | h'
  ·exact h'
  ·simp [Array.getElem?_eq_none h'] at hb
 have hcc := ccall b p v w hb hp
 go_enter Tryz.func89, Tryz.ntmps89
 go_wp2_with (go_at_call 139; refine hcc.mono ?_)
 rintro e w1 ⟨rfl, hbk, ho1, ho2, ho3, hs1, hk1⟩
 have hown1 : w1.ownsRowF 0 5 1 v l.length (Lib.byteCells l) :=
  hown.kept (row := some b) ⟨ho1, ho2, ho3, by omega, fun k _ hk => hk1 k (fun e => hk (by simp [e]))⟩ (Or.inr hne)
 have c0 : w1.cell? ⟨b, 0, none⟩ = some (.pointer (some ⟨b, 0, none⟩)) := by rw [Lib.cell_of_heap hbk]; rfl
 have c1 : w1.cell? ⟨b, 1, none⟩ = some v := by rw [Lib.cell_of_heap hbk]; rfl
 have hlt1 : b < w1.heap.size := by omega
 have hsz : (⟨#[c]⟩ : ByteArray).size = 1 := rfl
 have hnew : ∀ (j : Nat) (u : Value), (Lib.strCells ⟨#[c]⟩)[j]? = some u → (w1.alloc (.cells #[.int .u8 c.toNat] 5)).cell? ((⟨w.heap.size, 0, none⟩ : Addr).add j) = some u := fun j u hj => by
  rw [← hs1]
  match j, hj with
  | 0, hj => simp [Lib.strCells] at hj; subst hj; simp [Addr.add]
  | (j + 1), hj => simp [Lib.strCells] at hj
 obtain ⟨v', w2, hrun, hown', hgrow, hat⟩ := app_row (P := Tryz.prog) (w := w1.alloc (.cells #[.int .u8 c.toNat] 5)) 130 9 5 i0 Tryz.underlying130 Tryz.underlying9 hi hz0 hz1 hz2 v l.length _ (hown1.alloc _) ⟨w.heap.size, 0, none⟩ 1 ⟨#[c]⟩ hnew (by rw [hsz]; omega)
 rw [hsz] at hown'
 have hsa : (w1.alloc (.cells #[.int .u8 c.toNat] 5)).heap.size = w1.heap.size + 1 := by simp
 have hal : ∀ k, k < w1.heap.size → (w1.alloc (.cells #[.int .u8 c.toNat] 5)).heap[k]? = w1.heap[k]? := fun k hk => Lib.alloc_old w1 _ k hk
 have hb2 : w2.heap[b]? = some (.cells #[.pointer (some ⟨b, 0, none⟩), v] 132 (0, 0)) := by
  rw [hgrow.block b (by omega) (fun e => hne e.symm), hal b hlt1]
  exact hbk
 have d0 : w2.cell? ⟨b, 0, none⟩ = some (.pointer (some ⟨b, 0, none⟩)) := by rw [Lib.cell_of_heap hb2]; rfl
 have d1 : w2.cell? ⟨b, 1, none⟩ = some v := by rw [Lib.cell_of_heap hb2]; rfl
 have f1 : w2.frozen? ⟨b, 1, none⟩ = false := Lib.frozen_of_heap hb2 1
 have hne' : v'.ownBlock ≠ some b := by
  rcases hat with h | h
  ·rw [h]; exact hne
  ·intro e; have := h b e; omega
 obtain ⟨ao, n', cap, rfl⟩ : ∃ ao n' cap, v' = .slice ao n' cap := by
  rcases hown'.2 with ⟨hv, _⟩ | ⟨g, cap, cur, fz, hv, _⟩
  ·exact ⟨_, _, _, hv⟩
  ·exact ⟨_, _, _, hv⟩
 obtain ⟨va, vn, vc, rfl⟩ : ∃ va vn vc, v = .slice va vn vc := by
  rcases hown.2 with ⟨hv, _⟩ | ⟨g, cap, cur, fz, hv, _⟩
  ·exact ⟨_, _, _, hv⟩
  ·exact ⟨_, _, _, hv⟩
 go_wp2_with (at_builtin; refine wpList_row rfl _ _ 130 rfl _ rfl (.slice (some ⟨w.heap.size, 0, none⟩) 1 1) rfl hrun ?_)
 go_ret
 refine ⟨rfl, _, heap_setCell_same _ _ _ _ _ _ hb2, ?_, ?_, hne', hgrow.os.trans ho1, hgrow.tape.trans ho2, hgrow.output.trans ho3, ?_, ?_⟩
 ·have h := hown'.kept (w' := w2.setCell ⟨b, 1, none⟩ (.slice ao n' cap)) (row := some b) ⟨rfl, rfl, rfl, by simp, fun k _ hk => heap_setCell_other _ _ _ _ (fun e => hk (by simp [e]))⟩ (Or.inr hne')
  simpa [Lib.byteCells, Lib.strCells] using h
 ·rcases hat with h | h
  ·exact .inl h
  ·exact .inr fun k hk => by have := h k hk; omega
 ·have := hgrow.size; simp; omega
 ·intro k hk hkb hkv
  rw [heap_setCell_other _ _ _ _ hkb, hgrow.block k (by omega) (fun e => hkv e.symm), hal k (by omega), hk1 k hkb]
end Go.Proofs.YtkgmecjaejaehaaGreatDoor
