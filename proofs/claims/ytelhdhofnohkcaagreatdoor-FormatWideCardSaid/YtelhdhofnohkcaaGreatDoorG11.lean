/- Part of a proof: see the last text. -/
import Derived.Test.YtelhdhofnohkcaaGreatDoorG10
import Derived.Test.YtelhdhofnohkcaaGreatDoorG05
import Derived.Laws.Pointers
import Derived.Laws.LoneSync
import Derived.RegionTactic
import Derived.RegionCalls
import Derived.ChangeAlike
import Derived.Test.YtelhdhofnohkcaaGreatDoorG06
import Derived.Test.YtelhdhofnohkcaaGreatDoorG08
set_option linter.unusedVariables false
set_option linter.unusedSimpArgs false
namespace Go.Proofs.YtelhdhofnohkcaaGreatDoor
open Go.Eng Go.Fm
set_option maxRecDepth 20000
attribute [local irreducible] AG CallA CallT AWp PCall ACall AgC
@[go_sem] theorem sob68 : Go.Eng.strOf Tryz.prog 68 9 = true := by kernel_rfl
def escN (c : Nat) : List (List D) := [[.v (.int .u8 92)], [.v (.int .u8 (if c = 10 then 110 else (c : Int)))]]
def tbC (l : List Nat) : List D := (List.range 256).map fun c => if c ∈ l then .sl 1 (escN c) else .v (.slice none 0 0)
def toL : Nat → List (List D)
 | 0 => []
 | 1 => [[dS [10]]]
 | 2 => [[dS [10]], [dS [34]]]
 | _ => [[dS [10]], [dS [34]], [dS [92]]]
def doneL : Nat → List Nat
 | 0 => []
 | 1 => [10]
 | 2 => [34, 10]
 | _ => [92, 34, 10]
theorem tb_len (l : List Nat) (c : D) : (tbC l ++ [c]).length = 257 := by simp [tbC]
theorem tb_256 (l : List Nat) (c : D) : (tbC l ++ [c]).drop 256 = [c] := by
 rw [List.drop_append, List.drop_eq_nil_of_le (by simp [tbC])]; simp [tbC]
theorem tb_put (l : List Nat) (c c' : D) : (tbC l ++ [c]).take 256 ++ (c' :: (tbC l ++ [c]).drop 257) = tbC l ++ [c'] := by
 rw [List.drop_eq_nil_of_le (by simp [tbC]), List.take_append_of_le_length (by simp [tbC]), List.take_of_length_le (by simp [tbC])]
theorem tb_get (l : List Nat) (c : D) {o : Nat} (h : o < 256) : (tbC l ++ [c]).drop o = (if o ∈ l then .sl 1 (escN o) else .v (.slice none 0 0)) :: (tbC l ++ [c]).drop (o + 1) := by
 rw [List.drop_eq_getElem_cons (by simp [tbC]; omega)]
 congr 1
 rw [List.getElem_append_left (by simp [tbC]; omega)]
 simp [tbC]
theorem tb_set (l : List Nat) (c : D) {o : Nat} (h : o < 256) : (tbC l ++ [c]).take o ++ (.sl 1 (escN o) :: (tbC l ++ [c]).drop (o + 1)) = tbC (o :: l) ++ [c] := by
 have e : (tbC l ++ [c]).take o ++ (.sl 1 (escN o) :: (tbC l ++ [c]).drop (o + 1)) = (tbC l ++ [c]).set o (.sl 1 (escN o)) := by
  rw [List.set_eq_take_append_cons_drop, if_pos (by simp [tbC]; omega)]
 rw [e, List.set_append_left _ _ (by simp [tbC]; omega)]
 congr 1
 apply List.ext_getElem?
 intro i
 rw [List.getElem?_set]
 by_cases hi : i < 256
 ·simp only [tbC, List.getElem?_map, List.getElem?_range hi, Option.map_some, List.length_map, List.length_range]
  by_cases e : o = i
  ·subst e; simp [h]
  ·rw [if_neg e]; simp [Ne.symm e]
 ·rw [if_neg (by omega), List.getElem?_eq_none (by simp [tbC]; omega), List.getElem?_eq_none (by simp [tbC]; omega)]
theorem tb_last (l : List Nat) (c : D) : (tbC l ++ [c])[256]? = some c := by
 rw [List.getElem?_append_right (by simp [tbC])]; simp [tbC]
theorem tb_lset (l : List Nat) (c c' : D) : (tbC l ++ [c]).set 256 c' = tbC l ++ [c'] := by
 rw [List.set_append_right _ _ (by simp [tbC])]; simp [tbC]
set_option maxHeartbeats 8000000 in
theorem build_spec (g : Nat) (c0 c1 c2 : Value) : ACall Tryz.prog 148 [.ptr 900010 g 0] [(900010, (g, .box [.v c0, .v c1, .v c2, .v .nilIface, dOn]))] [900010, 900012] fun ps r =>
  ∃ g2, ps = [(g, .box [.v c0, .v c1, .v c2, .v .nilIface, dOn]), (g2, .box (tbC [92, 34, 10] ++ [.sl 1 (toL 3)]))] ∧ r = .ifc 254 (.ptr 900012 g2 0) := by 
 refine acall_of Tryz.func148 rfl rfl Tryz.ntmps148 (rs := [.tmp 2]) (tys := [190]) rfl rfl (by simp) (by simp [notFroz]) ?_
 (refine awp_sr fun Y Yh => ?_; simp [go_sem]; ((repeat' (first|(refine ag_x ?_;simp [go_sem])|intro _|apply And.intro|(apply Yh;clear Yh Y)));all_goals first|apply Hold.mk|omega|with_reducible assumption|skip))
 (refine awp_sr fun Y Yh => ?_; simp [go_sem]; ((repeat' (first|(refine ag_x ?_;simp [go_sem])|intro _|apply And.intro|(apply Yh;clear Yh Y)));all_goals first|apply Hold.mk|omega|with_reducible assumption|skip))
 refine awp_seq_k fun K1 hK1 => ?_
 (refine awp_sr fun Y Yh => ?_; simp [go_sem]; ((repeat' (first|(refine ag_x ?_;simp [go_sem])|intro _|apply And.intro|(apply Yh;clear Yh Y)));all_goals first|apply Hold.mk|omega|with_reducible assumption|skip))
 (refine awp_if fun T F hT hF => ?_; simp [go_sem]; refine hF ?_; clear hT hF T F)
 refine awp_skip ?_
 refine hK1 _ ?_; clear hK1
 (refine awp_sr fun Y Yh => ?_; simp [go_sem]; ((repeat' (first|(refine ag_x ?_;simp [go_sem])|intro _|apply And.intro|(apply Yh;clear Yh Y)));all_goals first|apply Hold.mk|omega|with_reducible assumption|skip))
 refine awp_seq_k fun K3 hK3 => ?_
 (refine awp_sr fun Y Yh => ?_; simp [go_sem]; ((repeat' (first|(refine ag_x ?_;simp [go_sem])|intro _|apply And.intro|(apply Yh;clear Yh Y)));all_goals first|apply Hold.mk|omega|with_reducible assumption|skip))
 refine awp_block ?_
 refine awp_loop (σ := Nat) (fun x => ⟨[(0, .ptr 900010 g 0), (3, dOn), (4, dB (decide (x = 0))), (5, dI ((2 * x : Nat) : Int))], [(900010, (g, .box [.v c0, .v c1, .v c2, .v .nilIface, dOn]))]⟩) (fun x => x ≤ 3) (fun x => 3 - x) 0 ?_ ?_ ?_
 ·(refine cov_of ?_ ?_ <;> simp [go_sem])
 ·simp
 intro x hx
 refine awp_seq_k fun K4 hK4 => ?_
 have hx' : x = 0 ∨ x = 1 ∨ x = 2 ∨ x = 3 := by omega
 rcases hx' with rfl | rfl | rfl | rfl
 ·(refine awp_sr fun Y Yh => ?_; simp [go_sem]; ((repeat' (first|(refine ag_x ?_;simp [go_sem])|intro _|apply And.intro|(apply Yh;clear Yh Y)));all_goals first|apply Hold.mk|omega|with_reducible assumption|skip))
  (refine awp_if fun T F hT hF => ?_; simp [go_sem]; refine hT ?_; clear hT hF T F)
  refine awp_skip ?_
  refine hK4 _ ?_; clear hK4
  refine awp_seq_k fun K6 hK6 => ?_
  refine awp_block ?_
  refine awp_seq_k fun K7 hK7 => ?_
  (refine awp_sr fun Y Yh => ?_; simp [go_sem]; ((repeat' (first|(refine ag_x ?_;simp [go_sem])|intro _|apply And.intro|(apply Yh;clear Yh Y)));all_goals first|apply Hold.mk|omega|with_reducible assumption|skip))
  (refine awp_if fun T F hT hF => ?_; simp [go_sem]; refine hF ?_; clear hT hF T F)
  refine awp_skip ?_
  refine hK7 _ ?_; clear hK7
  (refine awp_sr fun Y Yh => ?_; simp [go_sem]; ((repeat' (first|(refine ag_x ?_;simp [go_sem])|intro _|apply And.intro|(apply Yh;clear Yh Y)));all_goals first|apply Hold.mk|omega|with_reducible assumption|skip))
  (refine awp_if fun T F hT hF => ?_; simp [go_sem]; refine hT ?_; clear hT hF T F)
  (refine awp_r fun Y Yh => ?_; simp [go_sem]; ((repeat' (first|(refine ag_x ?_;simp [go_sem])|intro _|apply And.intro|(apply Yh;clear Yh Y)));all_goals first|apply Hold.mk|omega|with_reducible assumption|skip))
  refine hK6 _ ?_; clear hK6
  (refine awp_r fun Y Yh => ?_; simp [go_sem]; ((repeat' (first|(refine ag_x ?_;simp [go_sem])|intro _|apply And.intro|(apply Yh;clear Yh Y)));all_goals first|apply Hold.mk|omega|with_reducible assumption|skip))
  refine ⟨(1 : Nat), ?_, by omega, by omega⟩
  (refine cov_of ?_ ?_ <;> simp [go_sem])
 ·(refine awp_sr fun Y Yh => ?_; simp [go_sem]; ((repeat' (first|(refine ag_x ?_;simp [go_sem])|intro _|apply And.intro|(apply Yh;clear Yh Y)));all_goals first|apply Hold.mk|omega|with_reducible assumption|skip))
  (refine awp_if fun T F hT hF => ?_; simp [go_sem]; refine hT ?_; clear hT hF T F)
  refine awp_skip ?_
  refine hK4 _ ?_; clear hK4
  refine awp_seq_k fun K6 hK6 => ?_
  refine awp_block ?_
  refine awp_seq_k fun K7 hK7 => ?_
  (refine awp_sr fun Y Yh => ?_; simp [go_sem]; ((repeat' (first|(refine ag_x ?_;simp [go_sem])|intro _|apply And.intro|(apply Yh;clear Yh Y)));all_goals first|apply Hold.mk|omega|with_reducible assumption|skip))
  (refine awp_if fun T F hT hF => ?_; simp [go_sem]; refine hF ?_; clear hT hF T F)
  refine awp_skip ?_
  refine hK7 _ ?_; clear hK7
  (refine awp_sr fun Y Yh => ?_; simp [go_sem]; ((repeat' (first|(refine ag_x ?_;simp [go_sem])|intro _|apply And.intro|(apply Yh;clear Yh Y)));all_goals first|apply Hold.mk|omega|with_reducible assumption|skip))
  (refine awp_if fun T F hT hF => ?_; simp [go_sem]; refine hT ?_; clear hT hF T F)
  (refine awp_r fun Y Yh => ?_; simp [go_sem]; ((repeat' (first|(refine ag_x ?_;simp [go_sem])|intro _|apply And.intro|(apply Yh;clear Yh Y)));all_goals first|apply Hold.mk|omega|with_reducible assumption|skip))
  refine hK6 _ ?_; clear hK6
  (refine awp_r fun Y Yh => ?_; simp [go_sem]; ((repeat' (first|(refine ag_x ?_;simp [go_sem])|intro _|apply And.intro|(apply Yh;clear Yh Y)));all_goals first|apply Hold.mk|omega|with_reducible assumption|skip))
  refine ⟨(2 : Nat), ?_, by omega, by omega⟩
  (refine cov_of ?_ ?_ <;> simp [go_sem])
 ·(refine awp_sr fun Y Yh => ?_; simp [go_sem]; ((repeat' (first|(refine ag_x ?_;simp [go_sem])|intro _|apply And.intro|(apply Yh;clear Yh Y)));all_goals first|apply Hold.mk|omega|with_reducible assumption|skip))
  (refine awp_if fun T F hT hF => ?_; simp [go_sem]; refine hT ?_; clear hT hF T F)
  refine awp_skip ?_
  refine hK4 _ ?_; clear hK4
  refine awp_seq_k fun K6 hK6 => ?_
  refine awp_block ?_
  refine awp_seq_k fun K7 hK7 => ?_
  (refine awp_sr fun Y Yh => ?_; simp [go_sem]; ((repeat' (first|(refine ag_x ?_;simp [go_sem])|intro _|apply And.intro|(apply Yh;clear Yh Y)));all_goals first|apply Hold.mk|omega|with_reducible assumption|skip))
  (refine awp_if fun T F hT hF => ?_; simp [go_sem]; refine hF ?_; clear hT hF T F)
  refine awp_skip ?_
  refine hK7 _ ?_; clear hK7
  (refine awp_sr fun Y Yh => ?_; simp [go_sem]; ((repeat' (first|(refine ag_x ?_;simp [go_sem])|intro _|apply And.intro|(apply Yh;clear Yh Y)));all_goals first|apply Hold.mk|omega|with_reducible assumption|skip))
  (refine awp_if fun T F hT hF => ?_; simp [go_sem]; refine hT ?_; clear hT hF T F)
  (refine awp_r fun Y Yh => ?_; simp [go_sem]; ((repeat' (first|(refine ag_x ?_;simp [go_sem])|intro _|apply And.intro|(apply Yh;clear Yh Y)));all_goals first|apply Hold.mk|omega|with_reducible assumption|skip))
  refine hK6 _ ?_; clear hK6
  (refine awp_r fun Y Yh => ?_; simp [go_sem]; ((repeat' (first|(refine ag_x ?_;simp [go_sem])|intro _|apply And.intro|(apply Yh;clear Yh Y)));all_goals first|apply Hold.mk|omega|with_reducible assumption|skip))
  refine ⟨(3 : Nat), ?_, by omega, by omega⟩
  (refine cov_of ?_ ?_ <;> simp [go_sem])
 ·(refine awp_sr fun Y Yh => ?_; simp [go_sem]; ((repeat' (first|(refine ag_x ?_;simp [go_sem])|intro _|apply And.intro|(apply Yh;clear Yh Y)));all_goals first|apply Hold.mk|omega|with_reducible assumption|skip))
  (refine awp_if fun T F hT hF => ?_; simp [go_sem]; refine hF ?_; clear hT hF T F)
  refine awp_exit ?_
  simp only [go_sem]
  refine hK3 _ ?_; clear hK3
  refine awp_seq_k fun K10 hK10 => ?_
  (refine awp_sr fun Y Yh => ?_; simp [go_sem]; ((repeat' (first|(refine ag_x ?_;simp [go_sem])|intro _|apply And.intro|(apply Yh;clear Yh Y)));all_goals first|apply Hold.mk|omega|with_reducible assumption|skip))
  (refine awp_if fun T F hT hF => ?_; simp [go_sem]; refine hF ?_; clear hT hF T F)
  refine awp_skip ?_
  refine hK10 _ ?_; clear hK10
  (refine awp_sr fun Y Yh => ?_; simp [go_sem]; ((repeat' (first|(refine ag_x ?_;simp [go_sem])|intro _|apply And.intro|(apply Yh;clear Yh Y)));all_goals first|apply Hold.mk|omega|with_reducible assumption|skip))
  rename_i g0 gb
  refine awp_seq_k fun K20 hK20 => ?_
  (refine awp_sr fun Y Yh => ?_; simp [go_sem]; ((repeat' (first|(refine ag_x ?_;simp [go_sem])|intro _|apply And.intro|(apply Yh;clear Yh Y)));all_goals first|apply Hold.mk|omega|with_reducible assumption|skip))
  refine awp_block ?_
  refine awp_loop (σ := Nat × Nat) (fun x => ⟨[(0, .ptr 900010 g 0), (3, dOn), (11, .ptr 11 gb 0), (12, dI (4 - 2 * (x.1 : Int)))], [(900010, (g, .box [.v c0, .v c1, .v c2, .v .nilIface, dOn])), (11, (gb, .box (tbC (doneL x.1) ++ [.own 94 x.2]))), (94, (x.2, .row 9 1 (toL x.1)))]⟩) (fun x => x.1 ≤ 3) (fun x => 3 - x.1) (0, g0) ?_ ?_ ?_
  ·(refine cov_of ?_ ?_ <;> simp [go_sem])
   exact ⟨rfl, rfl⟩
  ·simp
  rintro ⟨x, g1⟩ hx
  simp only at hx ⊢
  refine awp_seq_k fun K21 hK21 => ?_
  have hx' : x = 0 ∨ x = 1 ∨ x = 2 ∨ x = 3 := by omega
  rcases hx' with rfl | rfl | rfl | rfl
  ·simp only [doneL, toL]
   have hln := tb_len [] (.own 94 g1)
   have h256 := tb_256 [] (.own 94 g1)
   have hput := fun g2 => tb_put [] (.own 94 g1) (.own 94 g2)
   have hget := tb_get [] (.own 94 g1) (o := 10) (by decide)
   have hset := fun g2 => tb_set [] (.own 94 g2) (o := 10) (by decide)
   have hln2 := fun g2 => tb_len [] (.own 94 g2)
   have hget2 := fun g2 => tb_get [] (.own 94 g2) (o := 10) (by decide)
   simp only [escN] at hset
   rw [if_neg (by decide)] at hget
   (refine awp_sr fun Y Yh => ?_; simp [go_sem]; ((repeat' (first|(refine ag_x ?_;simp [go_sem])|intro _|apply And.intro|(apply Yh;clear Yh Y)));all_goals first|apply Hold.mk|omega|with_reducible assumption|skip))
   (refine awp_if fun T F hT hF => ?_; simp [go_sem]; refine hT ?_; clear hT hF T F)
   refine awp_skip ?_
   refine hK21 _ ?_; clear hK21
   refine awp_seq_k fun K23 hK23 => ?_
   refine awp_block ?_
   (refine awp_sr fun Y Yh => ?_; simp [go_sem]; ((repeat' (first|(refine ag_x ?_;simp [go_sem])|intro _|apply And.intro|(apply Yh;clear Yh Y)));all_goals first|apply Hold.mk|omega|with_reducible assumption|skip))
   (refine awp_sr fun Y Yh => ?_; simp [go_sem]; ((repeat' (first|(refine ag_x ?_;simp [go_sem])|intro _|apply And.intro|(apply Yh;clear Yh Y)));all_goals first|apply Hold.mk|omega|with_reducible assumption|skip))
   refine awp_seq_k fun K24 hK24 => ?_
   generalize tbC [] ++ [D.own 94 g1] = T at *
   refine awp_seq ?_
   refine awp_ags ?_
   simp only [AGs]
   refine ag_true rfl ?_
   simp [go_sem]
   refine ag_true rfl ?_
   simp [go_sem]
   refine ag_true rfl ?_
   simp [go_sem, hln]
   refine ag_true rfl ?_
   simp [go_sem, hln, hget]
   refine ag_nileq (e := 5) true (by simp [dstOk]) rfl (.inl ⟨rfl, rfl⟩) (by simp [go_sem]) ?_
   simp [go_sem]
   (refine awp_if fun T F hT hF => ?_; simp [go_sem]; refine hT ?_; clear hT hF T F)
   (refine awp_r fun Y Yh => ?_; simp [go_sem, hln, h256, hput]; ((repeat' (first|(refine ag_x ?_;simp [go_sem, hln, h256, hput])|intro _|apply And.intro|(apply Yh;clear Yh Y)));all_goals first|apply Hold.mk|omega|with_reducible assumption|skip))
   rename_i g2
   refine hK24 _ ?_; clear hK24
   have hset := hset g2
   have hln2 := hln2 g2
   have hget2 := hget2 g2
   clear hput
   generalize tbC [] ++ [D.own 94 g2] = T2 at *
   (refine awp_r fun Y Yh => ?_; simp [go_sem, hln2]; ((repeat' (first|(refine ag_x ?_;simp [go_sem, hln2])|intro _|apply And.intro|(apply Yh;clear Yh Y)));all_goals first|apply Hold.mk|omega|with_reducible assumption|skip))
   refine hK23 _ ?_; clear hK23
   (refine awp_r fun Y Yh => ?_; simp [go_sem]; ((repeat' (first|(refine ag_x ?_;simp [go_sem])|intro _|apply And.intro|(apply Yh;clear Yh Y)));all_goals first|apply Hold.mk|omega|with_reducible assumption|skip))
   refine ⟨(1, g2), ?_, by simp only; omega, by simp only; omega⟩
   (refine cov_of ?_ ?_ <;> simp [go_sem])
   all_goals first | exact hset | exact ⟨hset, rfl⟩ | rfl
  ·simp only [doneL, toL]
   have hln := tb_len [10] (.own 94 g1)
   have h256 := tb_256 [10] (.own 94 g1)
   have hput := fun g2 => tb_put [10] (.own 94 g1) (.own 94 g2)
   have hget := tb_get [10] (.own 94 g1) (o := 34) (by decide)
   have hset := fun g2 => tb_set [10] (.own 94 g2) (o := 34) (by decide)
   have hln2 := fun g2 => tb_len [10] (.own 94 g2)
   have hget2 := fun g2 => tb_get [10] (.own 94 g2) (o := 34) (by decide)
   simp only [escN] at hset
   rw [if_neg (by decide)] at hget
   (refine awp_sr fun Y Yh => ?_; simp [go_sem]; ((repeat' (first|(refine ag_x ?_;simp [go_sem])|intro _|apply And.intro|(apply Yh;clear Yh Y)));all_goals first|apply Hold.mk|omega|with_reducible assumption|skip))
   (refine awp_if fun T F hT hF => ?_; simp [go_sem]; refine hT ?_; clear hT hF T F)
   refine awp_skip ?_
   refine hK21 _ ?_; clear hK21
   refine awp_seq_k fun K23 hK23 => ?_
   refine awp_block ?_
   (refine awp_sr fun Y Yh => ?_; simp [go_sem]; ((repeat' (first|(refine ag_x ?_;simp [go_sem])|intro _|apply And.intro|(apply Yh;clear Yh Y)));all_goals first|apply Hold.mk|omega|with_reducible assumption|skip))
   (refine awp_sr fun Y Yh => ?_; simp [go_sem]; ((repeat' (first|(refine ag_x ?_;simp [go_sem])|intro _|apply And.intro|(apply Yh;clear Yh Y)));all_goals first|apply Hold.mk|omega|with_reducible assumption|skip))
   refine awp_seq_k fun K24 hK24 => ?_
   generalize tbC [10] ++ [D.own 94 g1] = T at *
   refine awp_seq ?_
   refine awp_ags ?_
   simp only [AGs]
   refine ag_true rfl ?_
   simp [go_sem]
   refine ag_true rfl ?_
   simp [go_sem]
   refine ag_true rfl ?_
   simp [go_sem, hln]
   refine ag_true rfl ?_
   simp [go_sem, hln, hget]
   refine ag_nileq (e := 5) true (by simp [dstOk]) rfl (.inl ⟨rfl, rfl⟩) (by simp [go_sem]) ?_
   simp [go_sem]
   (refine awp_if fun T F hT hF => ?_; simp [go_sem]; refine hT ?_; clear hT hF T F)
   (refine awp_r fun Y Yh => ?_; simp [go_sem, hln, h256, hput]; ((repeat' (first|(refine ag_x ?_;simp [go_sem, hln, h256, hput])|intro _|apply And.intro|(apply Yh;clear Yh Y)));all_goals first|apply Hold.mk|omega|with_reducible assumption|skip))
   rename_i g2
   refine hK24 _ ?_; clear hK24
   have hset := hset g2
   have hln2 := hln2 g2
   have hget2 := hget2 g2
   clear hput
   generalize tbC [10] ++ [D.own 94 g2] = T2 at *
   (refine awp_r fun Y Yh => ?_; simp [go_sem, hln2]; ((repeat' (first|(refine ag_x ?_;simp [go_sem, hln2])|intro _|apply And.intro|(apply Yh;clear Yh Y)));all_goals first|apply Hold.mk|omega|with_reducible assumption|skip))
   refine hK23 _ ?_; clear hK23
   (refine awp_r fun Y Yh => ?_; simp [go_sem]; ((repeat' (first|(refine ag_x ?_;simp [go_sem])|intro _|apply And.intro|(apply Yh;clear Yh Y)));all_goals first|apply Hold.mk|omega|with_reducible assumption|skip))
   refine ⟨(2, g2), ?_, by simp only; omega, by simp only; omega⟩
   (refine cov_of ?_ ?_ <;> simp [go_sem])
   all_goals first | exact hset | exact ⟨hset, rfl⟩ | rfl
  ·simp only [doneL, toL]
   have hln := tb_len [34, 10] (.own 94 g1)
   have h256 := tb_256 [34, 10] (.own 94 g1)
   have hput := fun g2 => tb_put [34, 10] (.own 94 g1) (.own 94 g2)
   have hget := tb_get [34, 10] (.own 94 g1) (o := 92) (by decide)
   have hset := fun g2 => tb_set [34, 10] (.own 94 g2) (o := 92) (by decide)
   have hln2 := fun g2 => tb_len [34, 10] (.own 94 g2)
   have hget2 := fun g2 => tb_get [34, 10] (.own 94 g2) (o := 92) (by decide)
   simp only [escN] at hset
   rw [if_neg (by decide)] at hget
   (refine awp_sr fun Y Yh => ?_; simp [go_sem]; ((repeat' (first|(refine ag_x ?_;simp [go_sem])|intro _|apply And.intro|(apply Yh;clear Yh Y)));all_goals first|apply Hold.mk|omega|with_reducible assumption|skip))
   (refine awp_if fun T F hT hF => ?_; simp [go_sem]; refine hT ?_; clear hT hF T F)
   refine awp_skip ?_
   refine hK21 _ ?_; clear hK21
   refine awp_seq_k fun K23 hK23 => ?_
   refine awp_block ?_
   (refine awp_sr fun Y Yh => ?_; simp [go_sem]; ((repeat' (first|(refine ag_x ?_;simp [go_sem])|intro _|apply And.intro|(apply Yh;clear Yh Y)));all_goals first|apply Hold.mk|omega|with_reducible assumption|skip))
   (refine awp_sr fun Y Yh => ?_; simp [go_sem]; ((repeat' (first|(refine ag_x ?_;simp [go_sem])|intro _|apply And.intro|(apply Yh;clear Yh Y)));all_goals first|apply Hold.mk|omega|with_reducible assumption|skip))
   refine awp_seq_k fun K24 hK24 => ?_
   generalize tbC [34, 10] ++ [D.own 94 g1] = T at *
   refine awp_seq ?_
   refine awp_ags ?_
   simp only [AGs]
   refine ag_true rfl ?_
   simp [go_sem]
   refine ag_true rfl ?_
   simp [go_sem]
   refine ag_true rfl ?_
   simp [go_sem, hln]
   refine ag_true rfl ?_
   simp [go_sem, hln, hget]
   refine ag_nileq (e := 5) true (by simp [dstOk]) rfl (.inl ⟨rfl, rfl⟩) (by simp [go_sem]) ?_
   simp [go_sem]
   (refine awp_if fun T F hT hF => ?_; simp [go_sem]; refine hT ?_; clear hT hF T F)
   (refine awp_r fun Y Yh => ?_; simp [go_sem, hln, h256, hput]; ((repeat' (first|(refine ag_x ?_;simp [go_sem, hln, h256, hput])|intro _|apply And.intro|(apply Yh;clear Yh Y)));all_goals first|apply Hold.mk|omega|with_reducible assumption|skip))
   rename_i g2
   refine hK24 _ ?_; clear hK24
   have hset := hset g2
   have hln2 := hln2 g2
   have hget2 := hget2 g2
   clear hput
   generalize tbC [34, 10] ++ [D.own 94 g2] = T2 at *
   (refine awp_r fun Y Yh => ?_; simp [go_sem, hln2]; ((repeat' (first|(refine ag_x ?_;simp [go_sem, hln2])|intro _|apply And.intro|(apply Yh;clear Yh Y)));all_goals first|apply Hold.mk|omega|with_reducible assumption|skip))
   refine hK23 _ ?_; clear hK23
   (refine awp_r fun Y Yh => ?_; simp [go_sem]; ((repeat' (first|(refine ag_x ?_;simp [go_sem])|intro _|apply And.intro|(apply Yh;clear Yh Y)));all_goals first|apply Hold.mk|omega|with_reducible assumption|skip))
   refine ⟨(3, g2), ?_, by simp only; omega, by simp only; omega⟩
   (refine cov_of ?_ ?_ <;> simp [go_sem])
   all_goals first | exact hset | exact ⟨hset, rfl⟩ | rfl
  ·(refine awp_sr fun Y Yh => ?_; simp [go_sem]; ((repeat' (first|(refine ag_x ?_;simp [go_sem])|intro _|apply And.intro|(apply Yh;clear Yh Y)));all_goals first|apply Hold.mk|omega|with_reducible assumption|skip))
   (refine awp_if fun T F hT hF => ?_; simp [go_sem]; refine hF ?_; clear hT hF T F)
   refine awp_exit ?_
   simp only [go_sem]
   refine hK20 _ ?_; clear hK20
   refine awp_renbox 11 900012 rfl rfl (by decide) fun g2 => ?_
   simp only [go_sem]
   refine awp_frzin 94 900012 256 rfl rfl (by decide) (tb_last _ _) ?_
   simp only [go_sem, tb_lset]
   refine awp_seq ?_
   refine awp_ags ?_
   simp only [AGs]
   refine ag_mkifc (by simp [dstOk]) (by kernel_rfl) ?_
   simp [go_sem]
   refine ag_true rfl ?_
   simp [go_sem]
   (refine awp_ret ?_; simp [go_sem])
   all_goals rfl
def TB : List D := tbC [92, 34, 10] ++ [.sl 1 (toL 3)]
set_option maxHeartbeats 8000000 in
theorem bonce_spec (g : Nat) (c0 c1 c2 : Value) : ACall Tryz.prog 115 [.ptr 900010 g 0] [(900010, (g, .box [.v c0, .v c1, .v c2, .v .nilIface, dOn]))] [900010, 900012] fun ps r =>
  ∃ g2, ps = [(g, .box [.v c0, .v c1, .v c2, .ifc 254 (.ptr 900012 g2 0), .v (.slice none 0 0)]), (g2, .box TB)] ∧ r = .tup [] := by 
 refine acall_of Tryz.func115 rfl rfl Tryz.ntmps115 (rs := []) (tys := []) rfl rfl (by simp) (by simp [notFroz]) ?_
 have H := build_spec g c0 c1 c2
 have hTB : tbC [92, 34, 10] ++ [.sl 1 (toL 3)] = TB := rfl
 rw [hTB] at H
 generalize TB = T at *
 (refine awp_sr fun Y Yh => ?_; simp [go_sem]; ((repeat' (first|(refine ag_x ?_;simp [go_sem])|intro _|apply And.intro|(apply Yh;clear Yh Y)));all_goals first|apply Hold.mk|omega|with_reducible assumption|skip))
 (refine callA_l [900010, 900012] (.inl ⟨rfl,rfl⟩) (by simp [go_sem]) ?_; intro args ha; simp [go_sem] at ha; subst ha; refine ⟨_, _, H, (by simp [go_sem]), ?_⟩; rintro ps r hps ⟨g2, rfl, rfl⟩; simp [go_sem]; ((repeat' (first|(refine ag_x ?_;simp [go_sem])|intro _|apply And.intro|(apply Yh;clear Yh Y)));all_goals first|apply Hold.mk|omega|with_reducible assumption|skip))
 (refine awp_r fun Y Yh => ?_; simp [go_sem]; ((repeat' (first|(refine ag_x ?_;simp [go_sem])|intro _|apply And.intro|(apply Yh;clear Yh Y)));all_goals first|apply Hold.mk|omega|with_reducible assumption|skip))
 unfold retA
 simp [go_sem, notFroz]
end Go.Proofs.YtelhdhofnohkcaaGreatDoor
namespace Go.Proofs.YtelhdhofnohkcaaGreatDoor
set_option maxRecDepth 100000
theorem rdisable (w : World) : (callFunc 201 #[]).run Tryz.prog w = .ok (.value (.tuple #[])) w := run_call_mark0 Tryz.func201 (by kernel_rfl) (by kernel_rfl) (by kernel_rfl) .disable (by kernel_rfl) w
theorem renable (w : World) : (callFunc 203 #[]).run Tryz.prog w = .ok (.value (.tuple #[])) w := run_call_mark0 Tryz.func203 (by kernel_rfl) (by kernel_rfl) (by kernel_rfl) .enable (by kernel_rfl) w
theorem racquire (a : Addr) (w : World) : (callFunc 204 #[.pointer (some a)]).run Tryz.prog w = .ok (.value (.tuple #[])) w := run_call_marked Tryz.func204 (by kernel_rfl) (by kernel_rfl) (by kernel_rfl) .acquire (by kernel_rfl) a w
theorem rrelease (a : Addr) (w : World) : (callFunc 206 #[.pointer (some a)]).run Tryz.prog w = .ok (.value (.tuple #[])) w := run_call_marked Tryz.func206 (by kernel_rfl) (by kernel_rfl) (by kernel_rfl) .releaseMerge (by kernel_rfl) a w
theorem store_deferred (a : Addr) (x : Value) (u : FrameMode) (w : World) (hc : w.cell? a = some x) (hz : w.frozen? a = false) :
  CallsD Tryz.prog 178 #[.pointer (some a), .bool true] u w fun e u' w' => u' = u ∧ (e = .returned (.tuple #[]) ∧ w' = w.drew.setCell a (.int .u32 1)) := by
 have hc' : w.drew.cell? a = some x := by go_simp
 have hz' : w.drew.frozen? a = false := by go_simp
 have hst := run_call_store (P := Tryz.prog) Tryz.func193 (by kernel_rfl) (by kernel_rfl) (by kernel_rfl) (by kernel_rfl) (k := .u32) (y := 1) hc' hz'
 go_enter_d Tryz.func178, Tryz.ntmps178
 go_wp2
 go_region_calls
 all_goals (go_end0; exact ⟨rfl, rfl⟩)
theorem unlock_deferred (a : Addr) (u : FrameMode) (w : World) (hc : w.cell? a = some (.int .i32 1)) (hz : w.frozen? a = false) :
  CallsD Tryz.prog 177 #[.pointer (some a)] u w fun e u' w' => u' = u ∧ (e = .returned (.tuple #[]) ∧ w' = w.setCell a (.int .i32 0)) := by
 have hd := rdisable
 have he := renable
 have hr := rrelease
 have hadd := run_call_add (P := Tryz.prog) Tryz.func207 (by kernel_rfl) (by kernel_rfl) (by kernel_rfl) .i32 (by kernel_rfl) (y := -1) (s := 0) hc hz (by simp [go_sem]; rfl)
 have hcv := run_convert_to_unsafe (P := Tryz.prog) (src := 285) (dst := 151) Tryz.underlying285 Tryz.underlying151 (by kernel_rfl) hc
 go_enter_d Tryz.func177, Tryz.ntmps177
 go_wp2
 go_end0
 go_wp2
 go_end0
 exact ⟨rfl, rfl⟩
theorem lock_free (a : Addr) (w : World) (hc : w.cell? a = some (.int .i32 0)) (hz : w.frozen? a = false) :
  Calls Tryz.prog 176 #[.pointer (some a)] w fun e w' => e = .returned (.tuple #[]) ∧ w' = w.setCell a (.int .i32 1) := by
 have hd := rdisable
 have he := renable
 have ha := racquire
 have hcas := run_call_cas_hit (P := Tryz.prog) Tryz.func202 (by kernel_rfl) (by kernel_rfl) (by kernel_rfl) .i32 (by kernel_rfl) (y := 1) hc hz
 have hc' : (w.setCell a (.int .i32 1)).cell? a = some (.int .i32 1) := World.cell?_setCell_same w a _ hc
 have hcv := run_convert_to_unsafe (P := Tryz.prog) (src := 285) (dst := 151) Tryz.underlying285 Tryz.underlying151 (by kernel_rfl) hc'
 go_enter Tryz.func176, Tryz.ntmps176
 go_wp2
 first | go_end0 | (simp only [Exit.inBlock, Exit.then]; refine bodyPost_ret (results_none rfl _ _ _) rfl ?_) | refine bodyPost_ret (results_none rfl _ _ _) rfl ?_
 go_wp2
 go_end0
 exact ⟨rfl, rfl⟩
set_option maxHeartbeats 3200000 in
theorem slow_any (b : Nat) (w : World) (h0 : w.cell? ⟨b, 0, none⟩ = some (.int .u32 0)) (h1 : w.cell? ⟨b, 1, none⟩ = some (.int .i32 0)) (f0 : w.frozen? ⟨b, 0, none⟩ = false) (f1 : w.frozen? ⟨b, 1, none⟩ = false)
  (R : World → Prop) (H : Calls Tryz.prog 115 #[.pointer (some ⟨b, 0, none⟩)] (w.setCell ⟨b, 1, none⟩ (.int .i32 1)) fun e w' => e = .returned (.tuple #[]) ∧ R w')
  (HR : ∀ w', R w' → w'.cell? ⟨b, 0, none⟩ = some (.int .u32 0) ∧ w'.cell? ⟨b, 1, none⟩ = some (.int .i32 1) ∧ w'.frozen? ⟨b, 0, none⟩ = false ∧ w'.frozen? ⟨b, 1, none⟩ = false) :
  Calls Tryz.prog 147 #[.pointer (some ⟨b, 0, none⟩), .func (.func 115) #[.pointer (some ⟨b, 0, none⟩)] #[]] w fun e w' => e = .returned (.tuple #[]) ∧
   ∃ w1, R w1 ∧ w' = (w1.drew.setCell ⟨b, 0, none⟩ (.int .u32 1)).setCell ⟨b, 1, none⟩ (.int .i32 0) := by
 have hl := run_call_load (P := Tryz.prog) Tryz.func175 (by kernel_rfl) (by kernel_rfl) (by kernel_rfl) .u32 (by kernel_rfl) (w := w.setCell ⟨b, 1, none⟩ (.int .i32 1)) (a := ⟨b, 0, none⟩) (x := 0) ((World.cell?_setCell_other _ ⟨b, 1, none⟩ ⟨b, 0, none⟩ _ (by simp)).trans h0)
 have hnot : ∀ (x : Bool) (w : World), (Op.unary .not (.bool x)).run Tryz.prog w = .ok (.bool (!x)) w := fun _ _ => rfl
 go_enter_defers Tryz.func147, Tryz.ntmps147
 go_wp2_with (go_at_call 176; refine (lock_free ⟨b, 1, none⟩ _ (by go_simp) (by go_simp)).mono ?_; rintro e w' ⟨rfl, rfl⟩)
 go_wp2_with (first | (go_at_call 115; refine H.mono ?_; rintro e w' ⟨rfl, hR⟩) | (go_at_call 146; go_in))
 obtain ⟨r0, r1, z0, z1⟩ := HR _ hR
 refine leaves_cons (f := 178) (args := #[.pointer (some ⟨b, 0, none⟩), .bool true]) (by simp) (by simp [go_sem]) ?_
 refine (store_deferred ⟨b, 0, none⟩ (.int .u32 0) .returning _ r0 z0).mono ?_
 rintro e u' w'' ⟨rfl, rfl, rfl⟩
 refine leaves_cons (f := 177) (args := #[.pointer (some ⟨b, 1, none⟩)]) (by simp [settle]) (by simp [go_sem]) ?_
 refine (unlock_deferred ⟨b, 1, none⟩ _ _ ?_ (by simp [z1])).mono ?_
 ·refine (World.cell?_setCell_other _ ⟨b, 0, none⟩ ⟨b, 1, none⟩ _ (by simp)).trans ?_
  rw [World.cell?_drew]
  exact r1
 rintro e u' w'' ⟨rfl, rfl, rfl⟩
 simp [Leaves, settle, results, Tryz.results147]
 exact ⟨_, hR, rfl⟩
set_option maxHeartbeats 3200000 in
theorem do_first (b : Nat) (w : World) (h0 : w.cell? ⟨b, 0, none⟩ = some (.int .u32 0)) (h1 : w.cell? ⟨b, 1, none⟩ = some (.int .i32 0)) (f0 : w.frozen? ⟨b, 0, none⟩ = false) (f1 : w.frozen? ⟨b, 1, none⟩ = false)
  (R : World → Prop) (H : Calls Tryz.prog 115 #[.pointer (some ⟨b, 0, none⟩)] (w.setCell ⟨b, 1, none⟩ (.int .i32 1)) fun e w' => e = .returned (.tuple #[]) ∧ R w')
  (HR : ∀ w', R w' → w'.cell? ⟨b, 0, none⟩ = some (.int .u32 0) ∧ w'.cell? ⟨b, 1, none⟩ = some (.int .i32 1) ∧ w'.frozen? ⟨b, 0, none⟩ = false ∧ w'.frozen? ⟨b, 1, none⟩ = false) :
  Calls Tryz.prog 114 #[.pointer (some ⟨b, 0, none⟩), .func (.func 115) #[.pointer (some ⟨b, 0, none⟩)] #[]] w fun e w' => e = .returned (.tuple #[]) ∧
   ∃ w1, R w1 ∧ w' = (w1.drew.setCell ⟨b, 0, none⟩ (.int .u32 1)).setCell ⟨b, 1, none⟩ (.int .i32 0) := by
 have hl := run_call_load (P := Tryz.prog) Tryz.func175 (by kernel_rfl) (by kernel_rfl) (by kernel_rfl) .u32 (by kernel_rfl) h0
 have hnot : ∀ (x : Bool) (w : World), (Op.unary .not (.bool x)).run Tryz.prog w = .ok (.bool (!x)) w := fun _ _ => rfl
 go_enter Tryz.func114, Tryz.ntmps114
 go_wp2_with (first | (go_at_call 147; refine (slow_any b _ h0 h1 f0 f1 R H HR).mono ?_; rintro e w' ⟨rfl, hR⟩) | (go_at_call 146; go_in))
 go_end0
 exact ⟨rfl, hR⟩
end Go.Proofs.YtelhdhofnohkcaaGreatDoor
namespace Go.Proofs.YtelhdhofnohkcaaGreatDoor
open Go.Eng Go.Fm
set_option maxRecDepth 20000
abbrev bxR (d s : Int) (c2 : Value) (r o : D) : Blk := .box [.v (.int .u32 d), .v (.int .i32 s), .v c2, r, o]
theorem once_spec (g : Nat) (c2 : Value) (h2 : c2.oneCell' = true) : ACall Tryz.prog 114 [.ptr 900010 g 0, .mfn 115 (.ptr 900010 g 0)] [(900010, (g, bxR 0 0 c2 (.v .nilIface) dOn))] [900010, 900012] fun ps r =>
  ∃ g2, ps = [(g, bxR 1 0 c2 (.ifc 254 (.ptr 900012 g2 0)) (.v (.slice none 0 0))), (g2, .box TB)] ∧ r = .tup [] := by
 have hes : ∀ p ∈ [((900010, (g, bxR 0 0 c2 (.v .nilIface) dOn)) : Nat × (Nat × Blk))], 900000 ≤ p.1 ∧ notFroz p.2.2 = true ∧ p.1 ∈ [900010, 900012] := by simp [notFroz]
 refine ⟨⟨_, Tryz.func114, rfl, rfl⟩, hes, fun C w us hc hg hr hent => ?_⟩
 have E := Env.start hg hent fun p hp => (hes p hp).2.1
 have I := Inv.start hc hent fun p hp => (hes p hp).1
 
 obtain ⟨b, hv, hus⟩ : ∃ b, C.val 900010 g = some (.pointer (some ⟨b, 0, none⟩)) ∧ us = [.pointer (some ⟨b, 0, none⟩), .func (.func 115) #[.pointer (some ⟨b, 0, none⟩)] #[]] := by
  obtain ⟨hl, hh⟩ := hr
  match us, hl with
  | [u1, u2], _ =>
   have r1 := hh 0 _ _ rfl rfl
   have r2 := hh 1 _ _ rfl rfl
   cases r1 with
   | ptr _ _ _ b hb =>
    refine ⟨b, hb, ?_⟩
    cases r2 with
    | mfn _ _ u0 h0 =>
     cases h0 with
     | ptr _ _ _ b' hb' =>
      rw [hb] at hb'
      simp only [Option.some.injEq, Value.pointer.injEq, Addr.mk.injEq, and_true] at hb'
      subst hb'
      rfl
 subst hus
 have hx0 : Eng.look (⟨[], [(900010, (g, bxR 0 0 c2 (.v .nilIface) dOn))]⟩ : St).heap 900010 = some (g, bxR 0 0 c2 (.v .nilIface) dOn) := rfl
 obtain ⟨a0, f0⟩ := I.boxCell (j := 0) hx0 rfl hv
 obtain ⟨a1, f1⟩ := I.boxCell (j := 1) hx0 rfl hv
 have I1 := I.cellSet (j := 1) (v := .int .i32 1) hx0 hv rfl
 have H := (bonce_spec g (.int .u32 0) (.int .i32 1) c2).2.2 C _ [.pointer (some ⟨b, 0, none⟩)] I1.ctxOk (E.now I1) ⟨rfl, fun j d u hd hu => by
   match j, hd, hu with
   | 0, hd, hu => simp at hd hu; subst hd hu; exact .ptr _ _ _ _ hv
   | j + 1, hd, _ => simp at hd⟩
  (fun s g' x hx => by
   have : Eng.look (St.hput ⟨[], [(900010, (g, bxR 0 0 c2 (.v .nilIface) dOn))]⟩ 900010 g (.box ([.v (.int .u32 0), .v (.int .i32 0), .v c2, .v .nilIface, dOn].set 1 (.v (.int .i32 1))))).heap s = some (g', x) := by
    simp only [Eng.look] at hx
    split at hx
    ·rename_i e; subst e; simp at hx; obtain ⟨rfl, rfl⟩ := hx; rfl
    ·cases hx
   exact I1.heap s g' x this)
 refine (do_first b w a0 a1 f0 f1 (fun w' => ∃ g2 C' S', Inv w (LentB [(900010, (g, bxR 0 0 c2 (.v .nilIface) dOn))]) C 0 S' C' act0 w' ∧ C'.val 900010 g = some (.pointer (some ⟨b, 0, none⟩)) ∧
   Eng.look S'.heap 900010 = some (g, bxR 0 1 c2 (.ifc 254 (.ptr 900012 g2 0)) (.v (.slice none 0 0))) ∧ Eng.look S'.heap 900012 = some (g2, .box TB)) (H.mono ?_) ?_).mono ?_
 ·rintro e w' ⟨u, r, ps, C', rfl, ⟨g2, rfl, rfl⟩, hru, hok, ext, hp, hm, he, hl, hd, hfrm⟩
  have I2 := I1.afterL (ss := [900010, 900012]) (es := [(900010, (g, bxR 0 1 c2 (.v .nilIface) dOn))]) (fun s g' x hx => by
   simp only [Eng.look] at hx
   split at hx
   ·rename_i e; subst e; simp at hx; obtain ⟨rfl, rfl⟩ := hx; exact ⟨rfl, by decide, rfl, by simp⟩
   ·cases hx) ext hok hp hm he hl hd hfrm
  refine ⟨?_, g2, C', _, I2, ext.val _ _ _ hv, rfl, rfl⟩
  cases hru with
  | tup _ vs hn _ =>
   have : vs = #[] := Array.eq_empty_of_size_eq_zero hn
   rw [this]
 ·rintro w' ⟨g2, C', S', I', hv', q1, q2⟩
  obtain ⟨b0, z0⟩ := I'.boxCell (j := 0) q1 rfl hv'
  obtain ⟨b1, z1⟩ := I'.boxCell (j := 1) q1 rfl hv'
  exact ⟨b0, b1, z0, z1⟩
 ·rintro e w' ⟨rfl, w1, ⟨g2, C', S', I', hv', q1, q2⟩, rfl⟩
  have I4 := (I'.drew).cellSet (j := 0) (v := .int .u32 1) q1 hv' rfl
  have I5 := I4.cellSet (s := 900010) (g := g) (j := 1) (v := .int .i32 0) (cs := [.v (.int .u32 1), .v (.int .i32 1), .v c2, .ifc 254 (.ptr 900012 g2 0), .v (.slice none 0 0)]) rfl hv' rfl
  refine ⟨.tuple #[], .tup [], [(g, bxR 1 0 c2 (.ifc 254 (.ptr 900012 g2 0)) (.v (.slice none 0 0))), (g2, .box TB)], C', rfl, ⟨g2, rfl, rfl⟩, .tup _ _ rfl (fun j c u hj => by simp at hj), ?_⟩
  refine Inv.finish (ss := [900010, 900012]) hc hent (fun p hp => (hes p hp).2.1) I5 rfl (fun j s p h1 h2 => ?_)
  match j, h1, h2 with
  | 0, h1, h2 => simp at h1 h2; subst h1 h2; exact ⟨rfl, rfl⟩
  | 1, h1, h2 => simp at h1 h2; subst h1 h2; exact ⟨q2, rfl⟩
  | j + 2, h1, _ => simp at h1
end Go.Proofs.YtelhdhofnohkcaaGreatDoor
namespace Go.Proofs.YtelhdhofnohkcaaGreatDoor
open Go.Eng Go.RowKit Go.Sort Go.Fm
set_option maxRecDepth 20000
attribute [local irreducible] AG CallA CallT AWp PCall ACall AgC
theorem count_spec (s : Bs) (c : UInt8) : PCall Tryz.prog 80 [dS s, dS [c]] fun r => r = dI (s.count c : Nat) := by
 refine pcall_below ⟨_, Tryz.func80, rfl, rfl⟩ fun C w us hc' hg hr => ?_
 obtain rfl := repL_v (us := [.string ⟨s.toArray⟩, .string ⟨[c].toArray⟩]) hr
 refine (Tryz.strings_Count_one ⟨s.toArray⟩ c w).mono ?_
 rintro e w' ⟨rfl, rfl⟩
 exact ⟨_, _, rfl, by simp [Lib.countByte], .v _, Below.refl _ _⟩
theorem tb_at {c : Nat} (h : c < 256) : TB.drop c = (if c = 92 ∨ c = 34 ∨ c = 10 then .sl 1 (escN c) else .v (.slice none 0 0)) :: TB.drop (c + 1) := by
 have := tb_get [92, 34, 10] (.sl 1 (toL 3)) h
 unfold TB
 rw [this]
 simp
theorem spc_nat (c : UInt8) : spc c = true ↔ (c.toNat = 92 ∨ c.toNat = 34 ∨ c.toNat = 10) := by
 simp only [spc, Bool.or_eq_true, beq_iff_eq, ← UInt8.toNat_inj]
 have h1 : (10 : UInt8).toNat = 10 := rfl
 have h2 : (34 : UInt8).toNat = 34 := rfl
 have h3 : (92 : UInt8).toNat = 92 := rfl
 omega
theorem tb_ln : TB.length = 257 := tb_len _ _
theorem tb_rows : TB.drop 256 = [.sl 1 [[dS [10]], [dS [34]], [dS [92]]]] := tb_256 _ _
def bufD (o : Bs) (n : Nat) : List (List D) := (o.map fun c => [D.v (.int .u8 (c.toNat : Int))]) ++ List.replicate n [D.v (.int .u8 0)]
theorem bufD_len (o : Bs) (n : Nat) : (bufD o n).length = o.length + n := by simp [bufD]
theorem bufD_set (o : Bs) (n : Nat) (c : UInt8) : (bufD o (n + 1)).set o.length [D.v (.int .u8 (c.toNat : Int))] = bufD (o ++ [c]) n := by
 unfold bufD
 rw [List.set_append_right _ _ (by simp)]
 simp [List.replicate_succ]
theorem bufD_get (o : Bs) (n : Nat) : (bufD o (n + 1))[o.length]? = some [D.v (.int .u8 0)] := by
 unfold bufD
 rw [List.getElem?_append_right (by simp)]
 simp
theorem bufD_put2 (o : Bs) (n : Nat) (c : UInt8) : (bufD o (n + 2)).take o.length ++ [D.v (.int .u8 92)] :: [D.v (.int .u8 (c.toNat : Int))] :: (bufD o (n + 2)).drop (o.length + 2) = bufD (o ++ [92, c]) n := by
 unfold bufD
 rw [List.take_append_of_le_length (by simp), List.take_of_length_le (by simp), List.drop_append, List.drop_eq_nil_of_le (by simp)]
 simp [List.replicate_succ]
theorem esc_e (c : UInt8) : ((if c.toNat = 10 then 110 else (c.toNat : Int)) : Int) = (((if c = 10 then 110 else c) : UInt8).toNat : Int) := by
 have h1 : (10 : UInt8).toNat = 10 := rfl
 by_cases h : c = 10
 ·subst h; rfl
 ·rw [if_neg h, if_neg (fun q => h (UInt8.toNat_inj.1 (by omega)))]
def preV (s : Bs) : Nat → Nat
 | 0 => 0
 | 1 => s.count 10
 | 2 => s.count 10 + s.count 34
 | _ => s.count 10 + s.count 34 + s.count 92
theorem preV_1 (s : Bs) : preV s 1 = preV s 0 + s.count 10 := by simp [preV]
theorem preV_2 (s : Bs) : preV s 2 = preV s 1 + s.count 34 := rfl
theorem preV_3 (s : Bs) : preV s 3 = preV s 2 + s.count 92 := rfl
theorem preV_le (s : Bs) (k : Nat) : preV s k ≤ 3 * s.length := by
 have h1 := List.count_le_length (a := (10 : UInt8)) (l := s)
 have h2 := List.count_le_length (a := (34 : UInt8)) (l := s)
 have h3 := List.count_le_length (a := (92 : UInt8)) (l := s)
 unfold preV; split <;> omega
set_option maxHeartbeats 8000000 in
theorem brep_spec (g : Nat) (s : Bs) (hl : s.length ≤ 1100000) : ACall Tryz.prog 249 [.ptr 900012 g 0, dS s] [(900012, (g, .box TB))] [900012] fun ps r => ps = [(g, .box TB)] ∧ r = dS (qF s) := by 
 refine acall_of Tryz.func249 rfl rfl Tryz.ntmps249 (rs := [.tmp 4]) (tys := [9]) rfl rfl (by simp) (by simp [notFroz]) ?_
 have hln := tb_ln
 have hrow := tb_rows
 have hat := fun (c : UInt8) => tb_at (c := c.toNat) (by have := c.toNat_lt; omega)
 have hc10 := count_spec s 10
 have hc34 := count_spec s 34
 have hc92 := count_spec s 92
 have hparts := cntS_parts s
 have hcl := cntS_le s
 generalize TB = T at *
 (refine awp_sr fun Y Yh => ?_; simp [go_sem]; ((repeat' (first|(refine ag_x ?_;simp [go_sem])|intro _|apply And.intro|(apply Yh;clear Yh Y)));all_goals first|apply Hold.mk|omega|with_reducible assumption|skip))
 (refine awp_sr fun Y Yh => ?_; simp [go_sem, ba_size]; ((repeat' (first|(refine ag_x ?_;simp [go_sem, ba_size])|intro _|apply And.intro|(apply Yh;clear Yh Y)));all_goals first|apply Hold.mk|omega|with_reducible assumption|skip))
 (refine awp_sr fun Y Yh => ?_; simp [go_sem]; ((repeat' (first|(refine ag_x ?_;simp [go_sem])|intro _|apply And.intro|(apply Yh;clear Yh Y)));all_goals first|apply Hold.mk|omega|with_reducible assumption|skip))
 refine awp_seq_k fun K1 hK1 => ?_
 have tl1 : ∀ S', Cov S' ⟨[(0, .ptr 900012 g 0), (1, dS s), (5, dI (s.length + cntS s : Nat)), (6, dB (decide (cntS s ≠ 0)))], [(900012, (g, .box T))]⟩ → K1 S' := fun S' hS => by
  refine hK1 _ ?_; clear hK1
  refine awp_cov hS ?_; clear hS
  refine awp_seq_k fun K2 hK2 => ?_
  by_cases h0 : cntS s = 0
  ·rw [qF_none h0]
   (refine awp_sr fun Y Yh => ?_; simp [go_sem, h0]; ((repeat' (first|(refine ag_x ?_;simp [go_sem, h0])|intro _|apply And.intro|(apply Yh;clear Yh Y)));all_goals first|apply Hold.mk|omega|with_reducible assumption|skip))
   (refine awp_if fun T F hT hF => ?_; simp [go_sem]; refine hT ?_; clear hT hF T F)
   (refine awp_sr fun Y Yh => ?_; simp [go_sem]; ((repeat' (first|(refine ag_x ?_;simp [go_sem])|intro _|apply And.intro|(apply Yh;clear Yh Y)));all_goals first|apply Hold.mk|omega|with_reducible assumption|skip))
   (refine awp_ret ?_; simp [go_sem])
  ·have hql := qF_len s
   (refine awp_sr fun Y Yh => ?_; simp [go_sem, h0]; ((repeat' (first|(refine ag_x ?_;simp [go_sem, h0])|intro _|apply And.intro|(apply Yh;clear Yh Y)));all_goals first|apply Hold.mk|omega|with_reducible assumption|skip))
   (refine awp_if fun T F hT hF => ?_; simp [go_sem]; refine hF ?_; clear hT hF T F)
   refine awp_skip ?_
   refine hK2 _ ?_; clear hK2
   (refine awp_sr fun Y Yh => ?_; simp [go_sem]; ((repeat' (first|(refine ag_x ?_;simp [go_sem])|intro _|apply And.intro|(apply Yh;clear Yh Y)));all_goals first|apply Hold.mk|omega|with_reducible assumption|skip))
   (refine awp_sr fun Y Yh => ?_; simp [go_sem]; ((repeat' (first|(refine ag_x ?_;simp [go_sem])|intro _|apply And.intro|(apply Yh;clear Yh Y)));all_goals first|apply Hold.mk|omega|with_reducible assumption|skip))
   refine awp_seq_k fun K4 hK4 => ?_
   (refine awp_sr fun Y Yh => ?_; simp [go_sem]; ((repeat' (first|(refine ag_x ?_;simp [go_sem])|intro _|apply And.intro|(apply Yh;clear Yh Y)));all_goals first|apply Hold.mk|omega|with_reducible assumption|skip))
   refine awp_block ?_
   have hN : (((s.length : Int) + (cntS s : Int))).toNat = (qF s).length := by omega
   rw [hN]
   rename_i gq
   refine awp_loop (σ := Nat) (fun i => ⟨[(0, .ptr 900012 g 0), (1, dS s), (12, .own 85 gq), (13, dI (qF (s.take i)).length), (14, dI i)], [(900012, (g, .box T)), (85, (gq, .row 5 1 (bufD (qF (s.take i)) ((qF s).length - (qF (s.take i)).length))))]⟩) (fun i => i ≤ s.length) (fun i => s.length - i) 0 ?_ ?_ ?_
   ·(refine cov_of ?_ ?_ <;> simp [go_sem, bufD, qF_nil])
   ·simp
   ·intro i hi
    refine awp_seq_k fun K5 hK5 => ?_
    (refine awp_sr fun Y Yh => ?_; simp [go_sem, ba_size]; ((repeat' (first|(refine ag_x ?_;simp [go_sem, ba_size])|intro _|apply And.intro|(apply Yh;clear Yh Y)));all_goals first|apply Hold.mk|omega|with_reducible assumption|skip))
    by_cases h15 : i < s.length
    ·(refine awp_if fun T F hT hF => ?_; simp [go_sem, h15]; refine hT ?_; clear hT hF T F)
     refine awp_skip ?_
     refine hK5 _ ?_; clear hK5
     refine awp_seq_k fun K7 hK7 => ?_
     have hst := qF_take h15
     have hle := qF_le s (i + 1)
     have hle2 : (qF s).length ≤ 2200000 := by omega
     have tl7 : ∀ S', Cov S' ⟨[(0, .ptr 900012 g 0), (1, dS s), (12, .own 85 gq), (13, dI (qF (s.take (i + 1))).length), (14, dI i)], [(900012, (g, .box T)), (85, (gq, .row 5 1 (bufD (qF (s.take (i + 1))) ((qF s).length - (qF (s.take (i + 1))).length))))]⟩ → K7 S' := fun S' hS => by
      refine hK7 _ ?_; clear hK7
      refine awp_cov hS ?_; clear hS
      (refine awp_r fun Y Yh => ?_; simp [go_sem]; ((repeat' (first|(refine ag_x ?_;simp [go_sem])|intro _|apply And.intro|(apply Yh;clear Yh Y)));all_goals first|apply Hold.mk|omega|with_reducible assumption|skip))
      refine ⟨i + 1, ?_, by omega, by omega⟩
      (refine cov_of ?_ ?_ <;> simp [go_sem])
     clear hK7
     refine awp_block ?_
     have hc256 : (s[i].toNat : Int) < 256 := by have := s[i].toNat_lt; omega
     have hc256' : s[i].toNat < 256 := by omega
     have ha := hat s[i]
     generalize qF (s.take (i + 1)) = o1 at *
     generalize qF (s.take i) = o at *
     generalize (qF s).length = N at *
     generalize hc : s[i] = c at *
     cases hs : spc c with
     | true =>
      rw [quoC_spc hs] at hst
      rw [if_pos ((spc_nat c).1 hs)] at ha
      simp only [escN] at ha
      have hol : o1.length = o.length + 2 := by rw [hst]; simp
      obtain ⟨n, rfl⟩ : ∃ n, N = o.length + 2 + n := ⟨N - o.length - 2, by omega⟩
      rw [show o.length + 2 + n - o.length = n + 2 by omega]
      have hbl := bufD_len o (n + 2)
      generalize hR : bufD o (n + 2) = R at *
      (refine awp_sr fun Y Yh => ?_; simp [go_sem, h15, hc, ba_size]; ((repeat' (first|(refine ag_x ?_;simp [go_sem, h15, hc, ba_size])|intro _|apply And.intro|(apply Yh;clear Yh Y)));all_goals first|apply Hold.mk|omega|with_reducible assumption|skip))
      (refine awp_sr fun Y Yh => ?_; simp [go_sem, hln, ha, hc256, hc256']; ((repeat' (first|(refine ag_x ?_;simp [go_sem, hln, ha, hc256, hc256'])|intro _|apply And.intro|(apply Yh;clear Yh Y)));all_goals first|apply Hold.mk|omega|with_reducible assumption|skip))
      (refine awp_if fun T F hT hF => ?_; simp [go_sem]; refine hT ?_; clear hT hF T F)
      ((refine awp_d (.qs [0, 1, 2, 3, 4, 5, 6, 7, 8, 9] (.one 10 (.qs [11, 12] (.nil)))) (by kernel_rfl) ?_ ?_ ?_ ?_); (kernel_rfl); (exact (by decide +kernel)); (kernel_rfl); intro Y Yh; ((repeat' (first|(refine ag_x ?_;simp [go_sem, hln, ha, hc256, hc256', hbl])|refine adr_nil ?_|((first|refine adr_qs fun Y Yh=>?_|refine adr_y fun Y Yh=>?_);simp [go_sem, hln, ha, hc256, hc256', hbl])|intro _|apply And.intro|(apply Yh;clear Yh Y)));all_goals first|apply Hold.mk|omega|with_reducible assumption|skip))
      refine tl7 _ ?_
      have he : ((if c.toNat = 10 then 110 else (c.toNat : Int)) : Int) = (((if c = 10 then 110 else c) : UInt8).toNat : Int) := esc_e c
      rw [he] at *
      have hb2 := bufD_put2 o n (if c = 10 then 110 else c)
      rw [hR] at hb2
      (refine cov_of ?_ ?_ <;> simp [go_sem])
      ·rw [hol]; simp
      ·rw [hol, show o.length + 2 + n - (o.length + 2) = n by omega, hst, ← hb2]
     | false =>
      rw [quoC_no hs] at hst
      rw [if_neg (fun q => by rw [(spc_nat c).2 q] at hs; cases hs)] at ha
      have hol : o1.length = o.length + 1 := by rw [hst]; simp
      obtain ⟨n, rfl⟩ : ∃ n, N = o.length + 1 + n := ⟨N - o.length - 1, by omega⟩
      rw [show o.length + 1 + n - o.length = n + 1 by omega]
      have hbs := bufD_set o n c
      have hbl := bufD_len o (n + 1)
      obtain ⟨hC, hg2⟩ := List.getElem?_eq_some_iff.1 (bufD_get o n)
      generalize hR : bufD o (n + 1) = R at *
      (refine awp_sr fun Y Yh => ?_; simp [go_sem, h15, hc, ba_size]; ((repeat' (first|(refine ag_x ?_;simp [go_sem, h15, hc, ba_size])|intro _|apply And.intro|(apply Yh;clear Yh Y)));all_goals first|apply Hold.mk|omega|with_reducible assumption|skip))
      refine awp_seq ?_
      refine awp_ags ?_
      simp only [AGs]
      refine ag_true rfl ?_
      simp [go_sem, hln, ha, hc256, hc256']
      refine ag_true rfl ?_
      simp [go_sem, hln, ha, hc256, hc256']
      refine ag_true rfl ?_
      simp [go_sem, hln, ha, hc256, hc256']
      refine ag_true rfl ?_
      simp [go_sem, hln, ha, hc256, hc256']
      refine ag_true rfl ?_
      simp [go_sem, hln, ha, hc256, hc256']
      refine ag_true rfl ?_
      simp [go_sem, hln, ha, hc256, hc256']
      refine ag_nileq (e := 5) false (by simp [dstOk]) rfl (.inr ⟨rfl, rfl⟩) (by simp [go_sem]) ?_
      simp [go_sem]
      (refine awp_if fun T F hT hF => ?_; simp [go_sem]; refine hF ?_; clear hT hF T F)
      (refine awp_sr fun Y Yh => ?_; simp [go_sem, hbl, hg2, hC, hbs]; ((repeat' (first|(refine ag_x ?_;simp [go_sem, hbl, hg2, hC, hbs])|intro _|apply And.intro|(apply Yh;clear Yh Y)));all_goals first|apply Hold.mk|omega|with_reducible assumption|skip))
      (refine awp_r fun Y Yh => ?_; simp [go_sem]; ((repeat' (first|(refine ag_x ?_;simp [go_sem])|intro _|apply And.intro|(apply Yh;clear Yh Y)));all_goals first|apply Hold.mk|omega|with_reducible assumption|skip))
      refine tl7 _ ?_
      (refine cov_of ?_ ?_ <;> simp [go_sem])
      ·rw [hol]; simp
      ·rw [hol, show o.length + 1 + n - (o.length + 1) = n by omega, hst]
    ·(refine awp_if fun T F hT hF => ?_; simp [go_sem, h15]; refine hF ?_; clear hT hF T F)
     refine awp_exit ?_
     simp only [go_sem]
     refine hK4 _ ?_; clear hK4
     have hi2 : i = s.length := by omega
     subst hi2
     rw [List.take_length, Nat.sub_self]
     (refine awp_sr fun Y Yh => ?_; simp [go_sem, bufD]; ((repeat' (first|(refine ag_x ?_;simp [go_sem, bufD])|intro _|apply And.intro|(apply Yh;clear Yh Y)));all_goals first|apply Hold.mk|omega|with_reducible assumption|skip))
     (refine awp_ret ?_; simp [go_sem])
 clear hK1
 (refine awp_sr fun Y Yh => ?_; simp [go_sem, hln, hrow, ba_size]; ((repeat' (first|(refine ag_x ?_;simp [go_sem, hln, hrow, ba_size])|intro _|apply And.intro|(apply Yh;clear Yh Y)));all_goals first|apply Hold.mk|omega|with_reducible assumption|skip))
 by_cases h24 : 24 ≤ s.length
 ·have h24' : (24 : Int) ≤ s.length := by omega
  (refine awp_if fun T F hT hF => ?_; simp [go_sem, h24']; refine hT ?_; clear hT hF T F)
  (refine awp_sr fun Y Yh => ?_; simp [go_sem, hln, hrow]; ((repeat' (first|(refine ag_x ?_;simp [go_sem, hln, hrow])|intro _|apply And.intro|(apply Yh;clear Yh Y)));all_goals first|apply Hold.mk|omega|with_reducible assumption|skip))
  refine awp_block ?_
  refine awp_loop (σ := Nat) (fun k => ⟨[(0, .ptr 900012 g 0), (1, dS s), (5, dI (s.length + preV s k : Nat)), (6, dB (decide (preV s k ≠ 0))), (30, .sl 1 [[dS [10]], [dS [34]], [dS [92]]]), (31, dI 3), (32, dI k)], [(900012, (g, .box T))]⟩) (fun k => k ≤ 3) (fun k => 3 - k) 0 ?_ ?_ ?_
  ·(refine cov_of ?_ ?_ <;> simp [go_sem, preV])
  ·simp
  ·intro k hk
   have hk' : k = 0 ∨ k = 1 ∨ k = 2 ∨ k = 3 := by omega
   (refine awp_sr fun Y Yh => ?_; simp [go_sem]; ((repeat' (first|(refine ag_x ?_;simp [go_sem])|intro _|apply And.intro|(apply Yh;clear Yh Y)));all_goals first|apply Hold.mk|omega|with_reducible assumption|skip))
   refine awp_seq_k fun K10 hK10 => ?_
   rcases hk' with rfl | rfl | rfl | rfl
   ·(refine awp_if fun T F hT hF => ?_; simp [go_sem]; refine hT ?_; clear hT hF T F)
    refine awp_skip ?_
    refine hK10 _ ?_; clear hK10
    refine awp_seq_k fun K12 hK12 => ?_
    have tl12 : ∀ S', Cov S' ⟨[(0, .ptr 900012 g 0), (1, dS s), (5, dI (s.length + preV s 1 : Nat)), (6, dB (decide (preV s 1 ≠ 0))), (30, .sl 1 [[dS [10]], [dS [34]], [dS [92]]]), (31, dI 3), (32, dI (0 : Nat))], [(900012, (g, .box T))]⟩ → K12 S' := fun S' hS => by
     refine hK12 _ ?_; clear hK12
     refine awp_cov hS ?_; clear hS
     (refine awp_r fun Y Yh => ?_; simp [go_sem]; ((repeat' (first|(refine ag_x ?_;simp [go_sem])|intro _|apply And.intro|(apply Yh;clear Yh Y)));all_goals first|apply Hold.mk|omega|with_reducible assumption|skip))
     refine ⟨(1 : Nat), ?_, by omega, by omega⟩
     (refine cov_of ?_ ?_ <;> simp [go_sem])
    clear hK12
    refine awp_block ?_
    have hp := preV_1 s
    have hp0 := preV_le s 0
    generalize preV s 1 = m1 at *
    generalize preV s 0 = m0 at *
    have ha := hat 10
    rw [show ((10 : UInt8)).toNat = 10 from rfl, if_pos (by decide)] at ha
    simp only [escN] at ha
    have hcc := List.count_le_length (a := (10 : UInt8)) (l := s)
    generalize List.count 10 s = q at *
    (refine awp_sr fun Y Yh => ?_; simp [go_sem]; ((repeat' (first|(refine ag_x ?_;simp [go_sem])|intro _|apply And.intro|(apply Yh;clear Yh Y)));all_goals first|apply Hold.mk|omega|with_reducible assumption|skip))
    (refine awp_sr fun Y Yh => ?_; simp [go_sem]; ((repeat' (first|(refine ag_x ?_;simp [go_sem])|intro _|apply And.intro|(apply Yh;clear Yh Y)));all_goals first|apply Hold.mk|omega|with_reducible assumption|skip))
    ((try refine CallT.toA ?_); refine callT_m (.inl ⟨rfl,rfl⟩) (by simp [go_sem]) ?_; intro args ha; simp [go_sem] at ha; subst ha; refine ⟨_, hc10, ?_⟩; rintro _ rfl; simp [go_sem]; ((repeat' (first|(refine ag_x ?_;simp [go_sem])|intro _|apply And.intro|(apply Yh;clear Yh Y)));all_goals first|apply Hold.mk|omega|with_reducible assumption|skip))
    (refine awp_sr fun Y Yh => ?_; simp [go_sem]; ((repeat' (first|(refine ag_x ?_;simp [go_sem])|intro _|apply And.intro|(apply Yh;clear Yh Y)));all_goals first|apply Hold.mk|omega|with_reducible assumption|skip))
    by_cases hq : q = 0
    ·subst hq
     (refine awp_if fun T F hT hF => ?_; simp [go_sem]; refine hF ?_; clear hT hF T F)
     refine awp_skip ?_
     refine tl12 _ ?_
     (refine cov_of ?_ ?_ <;> simp [go_sem])
     simp [hp]
    ·have hq' : ¬ (q : Int) = 0 := by omega
     (refine awp_if fun T F hT hF => ?_; simp [go_sem, hq]; refine hT ?_; clear hT hF T F)
     ((refine awp_dr (.qs [0, 1, 2, 3, 4, 5, 6, 7, 8, 9, 10, 11, 12, 13] (.nil)) (by kernel_rfl) ?_ ?_ ?_ ?_); (kernel_rfl); (exact (by decide +kernel)); (kernel_rfl); intro Y Yh; ((repeat' (first|(refine ag_x ?_;simp [go_sem, hln, ha])|refine adr_nil ?_|((first|refine adr_qs fun Y Yh=>?_|refine adr_y fun Y Yh=>?_);simp [go_sem, hln, ha])|intro _|apply And.intro|(apply Yh;clear Yh Y)));all_goals first|apply Hold.mk|omega|with_reducible assumption|skip))
     (refine awp_r fun Y Yh => ?_; simp [go_sem]; ((repeat' (first|(refine ag_x ?_;simp [go_sem])|intro _|apply And.intro|(apply Yh;clear Yh Y)));all_goals first|apply Hold.mk|omega|with_reducible assumption|skip))
     refine tl12 _ ?_
     (refine cov_of ?_ ?_ <;> simp [go_sem])
     exact ⟨by omega, by omega⟩
   ·(refine awp_if fun T F hT hF => ?_; simp [go_sem]; refine hT ?_; clear hT hF T F)
    refine awp_skip ?_
    refine hK10 _ ?_; clear hK10
    refine awp_seq_k fun K12 hK12 => ?_
    have tl12 : ∀ S', Cov S' ⟨[(0, .ptr 900012 g 0), (1, dS s), (5, dI (s.length + preV s 2 : Nat)), (6, dB (decide (preV s 2 ≠ 0))), (30, .sl 1 [[dS [10]], [dS [34]], [dS [92]]]), (31, dI 3), (32, dI (1 : Nat))], [(900012, (g, .box T))]⟩ → K12 S' := fun S' hS => by
     refine hK12 _ ?_; clear hK12
     refine awp_cov hS ?_; clear hS
     (refine awp_r fun Y Yh => ?_; simp [go_sem]; ((repeat' (first|(refine ag_x ?_;simp [go_sem])|intro _|apply And.intro|(apply Yh;clear Yh Y)));all_goals first|apply Hold.mk|omega|with_reducible assumption|skip))
     refine ⟨(2 : Nat), ?_, by omega, by omega⟩
     (refine cov_of ?_ ?_ <;> simp [go_sem])
    clear hK12
    refine awp_block ?_
    have hp := preV_2 s
    have hp0 := preV_le s 1
    generalize preV s 2 = m1 at *
    generalize preV s 1 = m0 at *
    have ha := hat 34
    rw [show ((34 : UInt8)).toNat = 34 from rfl, if_pos (by decide)] at ha
    simp only [escN] at ha
    have hcc := List.count_le_length (a := (34 : UInt8)) (l := s)
    generalize List.count 34 s = q at *
    (refine awp_sr fun Y Yh => ?_; simp [go_sem]; ((repeat' (first|(refine ag_x ?_;simp [go_sem])|intro _|apply And.intro|(apply Yh;clear Yh Y)));all_goals first|apply Hold.mk|omega|with_reducible assumption|skip))
    (refine awp_sr fun Y Yh => ?_; simp [go_sem]; ((repeat' (first|(refine ag_x ?_;simp [go_sem])|intro _|apply And.intro|(apply Yh;clear Yh Y)));all_goals first|apply Hold.mk|omega|with_reducible assumption|skip))
    ((try refine CallT.toA ?_); refine callT_m (.inl ⟨rfl,rfl⟩) (by simp [go_sem]) ?_; intro args ha; simp [go_sem] at ha; subst ha; refine ⟨_, hc34, ?_⟩; rintro _ rfl; simp [go_sem]; ((repeat' (first|(refine ag_x ?_;simp [go_sem])|intro _|apply And.intro|(apply Yh;clear Yh Y)));all_goals first|apply Hold.mk|omega|with_reducible assumption|skip))
    (refine awp_sr fun Y Yh => ?_; simp [go_sem]; ((repeat' (first|(refine ag_x ?_;simp [go_sem])|intro _|apply And.intro|(apply Yh;clear Yh Y)));all_goals first|apply Hold.mk|omega|with_reducible assumption|skip))
    by_cases hq : q = 0
    ·subst hq
     (refine awp_if fun T F hT hF => ?_; simp [go_sem]; refine hF ?_; clear hT hF T F)
     refine awp_skip ?_
     refine tl12 _ ?_
     (refine cov_of ?_ ?_ <;> simp [go_sem])
     simp [hp]
    ·have hq' : ¬ (q : Int) = 0 := by omega
     (refine awp_if fun T F hT hF => ?_; simp [go_sem, hq]; refine hT ?_; clear hT hF T F)
     ((refine awp_dr (.qs [0, 1, 2, 3, 4, 5, 6, 7, 8, 9, 10, 11, 12, 13] (.nil)) (by kernel_rfl) ?_ ?_ ?_ ?_); (kernel_rfl); (exact (by decide +kernel)); (kernel_rfl); intro Y Yh; ((repeat' (first|(refine ag_x ?_;simp [go_sem, hln, ha])|refine adr_nil ?_|((first|refine adr_qs fun Y Yh=>?_|refine adr_y fun Y Yh=>?_);simp [go_sem, hln, ha])|intro _|apply And.intro|(apply Yh;clear Yh Y)));all_goals first|apply Hold.mk|omega|with_reducible assumption|skip))
     (refine awp_r fun Y Yh => ?_; simp [go_sem]; ((repeat' (first|(refine ag_x ?_;simp [go_sem])|intro _|apply And.intro|(apply Yh;clear Yh Y)));all_goals first|apply Hold.mk|omega|with_reducible assumption|skip))
     refine tl12 _ ?_
     (refine cov_of ?_ ?_ <;> simp [go_sem])
     exact ⟨by omega, by omega⟩
   ·(refine awp_if fun T F hT hF => ?_; simp [go_sem]; refine hT ?_; clear hT hF T F)
    refine awp_skip ?_
    refine hK10 _ ?_; clear hK10
    refine awp_seq_k fun K12 hK12 => ?_
    have tl12 : ∀ S', Cov S' ⟨[(0, .ptr 900012 g 0), (1, dS s), (5, dI (s.length + preV s 3 : Nat)), (6, dB (decide (preV s 3 ≠ 0))), (30, .sl 1 [[dS [10]], [dS [34]], [dS [92]]]), (31, dI 3), (32, dI (2 : Nat))], [(900012, (g, .box T))]⟩ → K12 S' := fun S' hS => by
     refine hK12 _ ?_; clear hK12
     refine awp_cov hS ?_; clear hS
     (refine awp_r fun Y Yh => ?_; simp [go_sem]; ((repeat' (first|(refine ag_x ?_;simp [go_sem])|intro _|apply And.intro|(apply Yh;clear Yh Y)));all_goals first|apply Hold.mk|omega|with_reducible assumption|skip))
     refine ⟨(3 : Nat), ?_, by omega, by omega⟩
     (refine cov_of ?_ ?_ <;> simp [go_sem])
    clear hK12
    refine awp_block ?_
    have hp := preV_3 s
    have hp0 := preV_le s 2
    generalize preV s 3 = m1 at *
    generalize preV s 2 = m0 at *
    have ha := hat 92
    rw [show ((92 : UInt8)).toNat = 92 from rfl, if_pos (by decide)] at ha
    simp only [escN] at ha
    have hcc := List.count_le_length (a := (92 : UInt8)) (l := s)
    generalize List.count 92 s = q at *
    (refine awp_sr fun Y Yh => ?_; simp [go_sem]; ((repeat' (first|(refine ag_x ?_;simp [go_sem])|intro _|apply And.intro|(apply Yh;clear Yh Y)));all_goals first|apply Hold.mk|omega|with_reducible assumption|skip))
    (refine awp_sr fun Y Yh => ?_; simp [go_sem]; ((repeat' (first|(refine ag_x ?_;simp [go_sem])|intro _|apply And.intro|(apply Yh;clear Yh Y)));all_goals first|apply Hold.mk|omega|with_reducible assumption|skip))
    ((try refine CallT.toA ?_); refine callT_m (.inl ⟨rfl,rfl⟩) (by simp [go_sem]) ?_; intro args ha; simp [go_sem] at ha; subst ha; refine ⟨_, hc92, ?_⟩; rintro _ rfl; simp [go_sem]; ((repeat' (first|(refine ag_x ?_;simp [go_sem])|intro _|apply And.intro|(apply Yh;clear Yh Y)));all_goals first|apply Hold.mk|omega|with_reducible assumption|skip))
    (refine awp_sr fun Y Yh => ?_; simp [go_sem]; ((repeat' (first|(refine ag_x ?_;simp [go_sem])|intro _|apply And.intro|(apply Yh;clear Yh Y)));all_goals first|apply Hold.mk|omega|with_reducible assumption|skip))
    by_cases hq : q = 0
    ·subst hq
     (refine awp_if fun T F hT hF => ?_; simp [go_sem]; refine hF ?_; clear hT hF T F)
     refine awp_skip ?_
     refine tl12 _ ?_
     (refine cov_of ?_ ?_ <;> simp [go_sem])
     simp [hp]
    ·have hq' : ¬ (q : Int) = 0 := by omega
     (refine awp_if fun T F hT hF => ?_; simp [go_sem, hq]; refine hT ?_; clear hT hF T F)
     ((refine awp_dr (.qs [0, 1, 2, 3, 4, 5, 6, 7, 8, 9, 10, 11, 12, 13] (.nil)) (by kernel_rfl) ?_ ?_ ?_ ?_); (kernel_rfl); (exact (by decide +kernel)); (kernel_rfl); intro Y Yh; ((repeat' (first|(refine ag_x ?_;simp [go_sem, hln, ha])|refine adr_nil ?_|((first|refine adr_qs fun Y Yh=>?_|refine adr_y fun Y Yh=>?_);simp [go_sem, hln, ha])|intro _|apply And.intro|(apply Yh;clear Yh Y)));all_goals first|apply Hold.mk|omega|with_reducible assumption|skip))
     (refine awp_r fun Y Yh => ?_; simp [go_sem]; ((repeat' (first|(refine ag_x ?_;simp [go_sem])|intro _|apply And.intro|(apply Yh;clear Yh Y)));all_goals first|apply Hold.mk|omega|with_reducible assumption|skip))
     refine tl12 _ ?_
     (refine cov_of ?_ ?_ <;> simp [go_sem])
     exact ⟨by omega, by omega⟩
   ·(refine awp_if fun T F hT hF => ?_; simp [go_sem]; refine hF ?_; clear hT hF T F)
    refine awp_exit ?_
    simp only [go_sem]
    have hp3 : preV s 3 = cntS s := hparts
    rw [hp3]
    refine tl1 _ ?_
    (refine cov_of ?_ ?_ <;> simp [go_sem])
 ·have h24' : ¬ (24 : Int) ≤ s.length := by omega
  (refine awp_if fun T F hT hF => ?_; simp [go_sem, h24']; refine hF ?_; clear hT hF T F)
  (refine awp_sr fun Y Yh => ?_; simp [go_sem]; ((repeat' (first|(refine ag_x ?_;simp [go_sem])|intro _|apply And.intro|(apply Yh;clear Yh Y)));all_goals first|apply Hold.mk|omega|with_reducible assumption|skip))
  refine awp_block ?_
  refine awp_loop (σ := Nat) (fun i => ⟨[(0, .ptr 900012 g 0), (1, dS s), (5, dI (s.length + cntS (s.take i) : Nat)), (6, dB (decide (cntS (s.take i) ≠ 0))), (10, dI i)], [(900012, (g, .box T))]⟩) (fun i => i ≤ s.length) (fun i => s.length - i) 0 ?_ ?_ ?_
  ·(refine cov_of ?_ ?_ <;> simp [go_sem, cntS])
  ·simp
  ·intro i hi
   refine awp_seq_k fun K14 hK14 => ?_
   (refine awp_sr fun Y Yh => ?_; simp [go_sem, ba_size]; ((repeat' (first|(refine ag_x ?_;simp [go_sem, ba_size])|intro _|apply And.intro|(apply Yh;clear Yh Y)));all_goals first|apply Hold.mk|omega|with_reducible assumption|skip))
   by_cases h15 : i < s.length
   ·(refine awp_if fun T F hT hF => ?_; simp [go_sem, h15]; refine hT ?_; clear hT hF T F)
    refine awp_skip ?_
    refine hK14 _ ?_; clear hK14
    refine awp_seq_k fun K16 hK16 => ?_
    have hst := cntS_take h15
    have hcl0 := cntS_le (s.take i)
    rw [List.length_take] at hcl0
    have tl16 : ∀ S', Cov S' ⟨[(0, .ptr 900012 g 0), (1, dS s), (5, dI (s.length + cntS (s.take (i + 1)) : Nat)), (6, dB (decide (cntS (s.take (i + 1)) ≠ 0))), (10, dI i)], [(900012, (g, .box T))]⟩ → K16 S' := fun S' hS => by
     refine hK16 _ ?_; clear hK16
     refine awp_cov hS ?_; clear hS
     (refine awp_r fun Y Yh => ?_; simp [go_sem]; ((repeat' (first|(refine ag_x ?_;simp [go_sem])|intro _|apply And.intro|(apply Yh;clear Yh Y)));all_goals first|apply Hold.mk|omega|with_reducible assumption|skip))
     refine ⟨i + 1, ?_, by omega, by omega⟩
     (refine cov_of ?_ ?_ <;> simp [go_sem])
    clear hK16
    refine awp_block ?_
    have hc256 : (s[i].toNat : Int) < 256 := by have := s[i].toNat_lt; omega
    have hc256' : s[i].toNat < 256 := by omega
    have ha := hat s[i]
    generalize cntS (s.take (i + 1)) = m1 at *
    generalize cntS (s.take i) = m0 at *
    generalize hc : s[i] = c at *
    cases hs : spc c with
    | true =>
     rw [if_pos ((spc_nat c).1 hs)] at ha
     rw [hs] at hst
     simp only [escN] at ha
     generalize (if c.toNat = 10 then (110 : Int) else (c.toNat : Int)) = e2 at *
     (refine awp_sr fun Y Yh => ?_; simp [go_sem, h15, hc, ba_size]; ((repeat' (first|(refine ag_x ?_;simp [go_sem, h15, hc, ba_size])|intro _|apply And.intro|(apply Yh;clear Yh Y)));all_goals first|apply Hold.mk|omega|with_reducible assumption|skip))
     (refine awp_sr fun Y Yh => ?_; simp [go_sem, hln, ha, hc256, hc256']; ((repeat' (first|(refine ag_x ?_;simp [go_sem, hln, ha, hc256, hc256'])|intro _|apply And.intro|(apply Yh;clear Yh Y)));all_goals first|apply Hold.mk|omega|with_reducible assumption|skip))
     (refine awp_if fun T F hT hF => ?_; simp [go_sem]; refine hT ?_; clear hT hF T F)
     (refine awp_sr fun Y Yh => ?_; simp [go_sem, hln, ha, hc256, hc256']; ((repeat' (first|(refine ag_x ?_;simp [go_sem, hln, ha, hc256, hc256'])|intro _|apply And.intro|(apply Yh;clear Yh Y)));all_goals first|apply Hold.mk|omega|with_reducible assumption|skip))
     (refine awp_r fun Y Yh => ?_; simp [go_sem]; ((repeat' (first|(refine ag_x ?_;simp [go_sem])|intro _|apply And.intro|(apply Yh;clear Yh Y)));all_goals first|apply Hold.mk|omega|with_reducible assumption|skip))
     refine tl16 _ ?_
     (refine cov_of ?_ ?_ <;> simp [go_sem])
     simp at hst
     exact ⟨by omega, by omega⟩
    | false =>
     rw [if_neg (fun q => by rw [(spc_nat c).2 q] at hs; cases hs)] at ha
     rw [hs] at hst
     simp at hst
     subst hst
     (refine awp_sr fun Y Yh => ?_; simp [go_sem, h15, hc, ba_size]; ((repeat' (first|(refine ag_x ?_;simp [go_sem, h15, hc, ba_size])|intro _|apply And.intro|(apply Yh;clear Yh Y)));all_goals first|apply Hold.mk|omega|with_reducible assumption|skip))
     refine awp_seq ?_
     refine awp_ags ?_
     simp only [AGs]
     refine ag_true rfl ?_
     simp [go_sem, hln, ha, hc256, hc256']
     refine ag_true rfl ?_
     simp [go_sem, hln, ha, hc256, hc256']
     refine ag_true rfl ?_
     simp [go_sem, hln, ha, hc256, hc256']
     refine ag_true rfl ?_
     simp [go_sem, hln, ha, hc256, hc256']
     refine ag_true rfl ?_
     simp [go_sem, hln, ha, hc256, hc256']
     refine ag_true rfl ?_
     simp [go_sem, hln, ha, hc256, hc256']
     refine ag_nileq (e := 5) false (by simp [dstOk]) rfl (.inr ⟨rfl, rfl⟩) (by simp [go_sem]) ?_
     simp [go_sem]
     (refine awp_if fun T F hT hF => ?_; simp [go_sem]; refine hF ?_; clear hT hF T F)
     refine awp_skip ?_
     refine tl16 _ ?_
     (refine cov_of ?_ ?_ <;> simp [go_sem])
   ·(refine awp_if fun T F hT hF => ?_; simp [go_sem, h15]; refine hF ?_; clear hT hF T F)
    refine awp_exit ?_
    simp only [go_sem]
    have hi2 : i = s.length := by omega
    subst hi2
    rw [List.take_length]
    refine tl1 _ ?_
    (refine cov_of ?_ ?_ <;> simp [go_sem])
end Go.Proofs.YtelhdhofnohkcaaGreatDoor
namespace Go.Proofs.YtelhdhofnohkcaaGreatDoor
open Go.Eng Go.Fm
set_option maxRecDepth 20000
attribute [local irreducible] AG CallA CallT AWp PCall ACall AgC
set_option maxHeartbeats 8000000 in
theorem repl_spec (g : Nat) (s : Bs) (hl : s.length ≤ 1100000) : ACall Tryz.prog 77 [.ptr 900010 g 0, dS s] [(900010, (g, bxR 0 0 (.int .u32 0) (.v .nilIface) dOn))] [900010] fun ps r =>
  (∃ x, ps = [(g, x)]) ∧ r = dS (qF s) := by 
 refine acall_of Tryz.func77 rfl rfl Tryz.ntmps77 (rs := [.tmp 4]) (tys := [9]) rfl rfl (by simp) (by simp [notFroz]) ?_
 (refine awp_sr fun Y Yh => ?_; simp [go_sem]; ((repeat' (first|(refine ag_x ?_;simp [go_sem])|intro _|apply And.intro|(apply Yh;clear Yh Y)));all_goals first|apply Hold.mk|omega|with_reducible assumption|skip))
 refine awp_seq ?_
 refine awp_ags ?_
 simp only [AGs]
 refine ag_true rfl ?_
 simp [go_sem]
 refine ag_true rfl ?_
 simp [go_sem]
 refine ag_true rfl ?_
 simp [go_sem]
 refine ag_true rfl ?_
 simp [go_sem]
 refine ag_mkmethod (by simp [dstOk]) ?_
 simp [go_sem]
 refine ag_true rfl ?_
 simp [go_sem]
 (refine callA_l [900010, 900012] (.inl ⟨rfl,rfl⟩) (by simp [go_sem]) ?_; intro args ha; simp [go_sem] at ha; subst ha; refine ⟨_, _, (once_spec g (.int .u32 0) rfl), (by simp [go_sem]), ?_⟩; rintro ps r hps ⟨g2, rfl, rfl⟩; simp [go_sem]; ((repeat' (first|(refine ag_x ?_;simp [go_sem])|intro _|apply And.intro|(apply Yh;clear Yh Y)));all_goals first|apply Hold.mk|omega|with_reducible assumption|skip))
 refine awp_seq ?_
 refine awp_ags ?_
 simp only [AGs]
 refine ag_true rfl ?_
 simp [go_sem]
 refine ag_true rfl ?_
 simp [go_sem]
 refine ag_true rfl ?_
 simp [go_sem]
 refine ag_true rfl ?_
 simp [go_sem]
 refine ag_true rfl ?_
 simp [go_sem]
 refine ag_invoke 249 254 (by simp [dstOk]) (fun _ _ => by kernel_rfl) ?_
 simp [go_sem]
 refine callA_l [900012] (.inl ⟨rfl, rfl⟩) (by simp [go_sem]) ?_
 intro args ha
 simp [go_sem] at ha
 subst ha
 refine ⟨_, _, brep_spec g2 s hl, (by simp [go_sem]), ?_⟩
 rintro ps r hps ⟨rfl, rfl⟩
 simp [go_sem]
 refine ag_true rfl ?_
 simp [go_sem]
 (refine awp_ret ?_; simp [go_sem])
set_option maxHeartbeats 32000000 in
theorem fill_p (args : List Ag) (u g : Nat) (f : Fld) (hA : AgsOk args) (hu : u ≤ args.length) (hf : FdOk f) (hp : f.lt = 112) :
  ACall Tryz.prog 49 [.ptr 900004 g 0, dF f] [fiB g args u] [900004]
   fun ps r => ps = [(g, .box [dAs args, dI (fillV args u f).2.2])] ∧ r = .tup [dS (fillV args u f).1, dI (fillV args u f).2.1] := by 
 refine acall_of Tryz.func49 rfl rfl Tryz.ntmps49 (rs := [.tmp 4, .tmp 5]) (tys := [9, 34]) rfl rfl (by simp) (by simp [notFroz]) ?_
 have h0 : f.lt ≠ 0 := by rw [hp]; decide
 have hS := fun gf => stars_spec args u g gf f hu hA.1
 have hsl := stars_le hu f
 have hso := fun h => stars_ok (args := args) (u := u) hf h
 have eV : fillV args u f = (if (starsV args u f).1 ≠ 0 then ([], (starsV args u f).1, (starsV args u f).2.1) else
  if (ofA args (starsV args u f).2.1 f.nm).2.1 ≠ 0 then ([], (ofA args (starsV args u f).2.1 f.nm).2.1, (ofA args (starsV args u f).2.1 f.nm).2.2) else
  match putV (starsV args u f).2.2 (ofA args (starsV args u f).2.1 f.nm).1 with
  | none => ([], 1, (ofA args (starsV args u f).2.1 f.nm).2.2)
  | some t => (t, 0, (ofA args (starsV args u f).2.1 f.nm).2.2)) := by unfold fillV; rw [if_neg h0]; rfl
 generalize hV : fillV args u f = V at *
 generalize starsV args u f = S at *
 obtain ⟨se, su, sf⟩ := S
 simp only at hS hsl hso eV ⊢
 by_cases he : se = 0
 ·subst he
  obtain ⟨⟨hw, hpr⟩, hlt, hnm⟩ := hso rfl
  have hO := of_spec args su g sf hsl hA.1
  have hoa := ofA_ok hA su sf.nm
  rw [hnm] at hO hoa
  rw [if_neg (by simp)] at eV
  generalize ofA args su f.nm = O at *
  obtain ⟨oa, oe, ou⟩ := O
  simp only at hO hoa eV
  (refine awp_sr fun Y Yh => ?_; simp [go_sem]; ((repeat' (first|(refine ag_x ?_;simp [go_sem])|intro _|apply And.intro|(apply Yh;clear Yh Y)));all_goals first|apply Hold.mk|omega|with_reducible assumption|skip))
  refine awp_renbox 3 900003 rfl rfl (by decide) fun gf => ?_
  simp only [go_sem]
  refine awp_seq_k fun K1 hK1 => ?_
  (refine awp_sr fun Y Yh => ?_; simp [go_sem]; ((repeat' (first|(refine ag_x ?_;simp [go_sem])|intro _|apply And.intro|(apply Yh;clear Yh Y)));all_goals first|apply Hold.mk|omega|with_reducible assumption|skip))
  (refine callA_l [900004, 900003] (.inl ⟨rfl,rfl⟩) (by simp [go_sem]) ?_; intro args ha; simp [go_sem] at ha; subst ha; refine ⟨_, _, (hS gf), (by simp [go_sem]), ?_⟩; rintro ps r hps ⟨rfl, rfl⟩; simp [go_sem]; ((repeat' (first|(refine ag_x ?_;simp [go_sem])|intro _|apply And.intro|(apply Yh;clear Yh Y)));all_goals first|apply Hold.mk|omega|with_reducible assumption|skip))
  (refine awp_sr fun Y Yh => ?_; simp [go_sem]; ((repeat' (first|(refine ag_x ?_;simp [go_sem])|intro _|apply And.intro|(apply Yh;clear Yh Y)));all_goals first|apply Hold.mk|omega|with_reducible assumption|skip))
  (refine awp_if fun T F hT hF => ?_; simp [go_sem]; refine hF ?_; clear hT hF T F)
  refine awp_skip ?_
  refine hK1 _ ?_; clear hK1
  (refine awp_sr fun Y Yh => ?_; simp [go_sem]; ((repeat' (first|(refine ag_x ?_;simp [go_sem])|intro _|apply And.intro|(apply Yh;clear Yh Y)));all_goals first|apply Hold.mk|omega|with_reducible assumption|skip))
  (refine callA_l [900004] (.inl ⟨rfl,rfl⟩) (by simp [go_sem]) ?_; intro args ha; simp [go_sem] at ha; subst ha; refine ⟨_, _, hO, (by simp [go_sem]), ?_⟩; rintro ps r hps ⟨rfl, rfl⟩; simp [go_sem]; ((repeat' (first|(refine ag_x ?_;simp [go_sem])|intro _|apply And.intro|(apply Yh;clear Yh Y)));all_goals first|apply Hold.mk|omega|with_reducible assumption|skip))
  refine awp_seq_k fun K3 hK3 => ?_
  by_cases hoe : oe = 0
  ·subst hoe
   rw [if_neg (by simp)] at eV
   (refine awp_sr fun Y Yh => ?_; simp [go_sem]; ((repeat' (first|(refine ag_x ?_;simp [go_sem])|intro _|apply And.intro|(apply Yh;clear Yh Y)));all_goals first|apply Hold.mk|omega|with_reducible assumption|skip))
   (refine awp_if fun T F hT hF => ?_; simp [go_sem]; refine hF ?_; clear hT hF T F)
   refine awp_skip ?_
   refine hK3 _ ?_; clear hK3
   refine awp_seq_k fun K5 hK5 => ?_
   have b115 : decide ((sf.lt.toNat : Int) = 115) = decide (sf.lt = 115) := u8_eqb _ 115 (by decide)
   have b112 : decide ((sf.lt.toNat : Int) = 112) = decide (sf.lt = 112) := u8_eqb _ 112 (by decide)
   have h112 : sf.lt = 112 := by rw [hlt]; exact hp
   have h115 : ¬ sf.lt = 115 := by rw [h112]; decide
   (refine awp_sr fun Y Yh => ?_; simp [go_sem]; ((repeat' (first|(refine ag_x ?_;simp [go_sem])|intro _|apply And.intro|(apply Yh;clear Yh Y)));all_goals first|apply Hold.mk|omega|with_reducible assumption|skip))
   refine awp_block ?_
   (refine awp_sr fun Y Yh => ?_; simp [go_sem, b115]; ((repeat' (first|(refine ag_x ?_;simp [go_sem, b115])|intro _|apply And.intro|(apply Yh;clear Yh Y)));all_goals first|apply Hold.mk|omega|with_reducible assumption|skip))
   (refine awp_if fun T F hT hF => ?_; simp [go_sem, h115]; refine hF ?_; clear hT hF T F)
   (refine awp_sr fun Y Yh => ?_; simp [go_sem, b112]; ((repeat' (first|(refine ag_x ?_;simp [go_sem, b112])|intro _|apply And.intro|(apply Yh;clear Yh Y)));all_goals first|apply Hold.mk|omega|with_reducible assumption|skip))
   have e2 : putV sf oa = some (paddedV sf (shortV sf (quoV (textV oa)))) := by unfold putV; rw [if_neg h115, if_pos h112]
   rw [e2] at eV
   simp only at eV
   have hT := text_spec oa hoa.1
   have htl := text_len hoa
   have hql := qF_len (textV oa)
   have hcl := cntS_le (textV oa)
   have hRp := fun g => repl_spec g (textV oa) (by omega)
   rw [quoV_qF] at eV
   generalize textV oa = tx at *
   generalize qF tx = Q at *
   have hSh := short_spec sf (34 :: Q ++ [34])
   have hsl2 := short_len sf (34 :: Q ++ [34])
   have hPd := padded_spec sf (shortV sf (34 :: Q ++ [34])) (by omega) (by
    have e : (34 :: Q ++ [34]).length = Q.length + 2 := by simp
    rw [e] at hsl2
    omega)
   generalize shortV sf (34 :: Q ++ [34]) = Z at *
   (refine awp_if fun T F hT hF => ?_; simp [go_sem, h112]; refine hT ?_; clear hT hF T F)
   ((refine awp_dr (.two 0 (.two 1 (.one 2 (.one 3 (.one 4 (.one 5 .nil)))) 2 (.one 1 (.one 3 (.one 4 (.one 5 .nil))))) 2 (.one 0 (.one 1 (.one 3 (.one 4 (.one 5 .nil)))))) (by kernel_rfl) ?_ ?_ ?_ ?_); (kernel_rfl); (exact (by decide +kernel)); (kernel_rfl); intro Y Yh; ((repeat' (first|(refine ag_x ?_;simp [go_sem])|refine adr_nil ?_|refine adr_two ?_ ?_|((first|refine adr_qs fun Y Yh=>?_|refine adr_y fun Y Yh=>?_);simp [go_sem])|intro _|apply And.intro|(apply Yh;clear Yh Y)));all_goals first|apply Hold.mk|omega|with_reducible assumption|skip))
   ·refine callA_frz 38 rfl ?_
    (refine callA_l [900010] (.inl ⟨rfl,rfl⟩) (by simp [go_sem]) ?_; intro args ha; simp [go_sem] at ha; subst ha; refine ⟨_, _, newr_spec, (by simp [go_sem]), ?_⟩; rintro ps r hps ⟨gx, rfl, rfl⟩; simp [go_sem]; ((repeat' (first|(refine ag_x ?_;simp [go_sem])|refine adr_nil ?_|refine adr_two ?_ ?_|((first|refine adr_qs fun Y Yh=>?_|refine adr_y fun Y Yh=>?_);simp [go_sem])|intro _|apply And.intro|(apply Yh;clear Yh Y)));all_goals first|apply Hold.mk|omega|with_reducible assumption|skip))
    ((try refine CallT.toA ?_); refine callT_f (.inl ⟨rfl,rfl⟩) ?_; intro args ha; simp [go_sem] at ha; subst ha; refine ⟨_, hT, ?_⟩; rintro _ rfl; refine ⟨rfl, ?_⟩; simp [go_sem]; ((repeat' (first|(refine ag_x ?_;simp [go_sem])|refine adr_nil ?_|refine adr_two ?_ ?_|((first|refine adr_qs fun Y Yh=>?_|refine adr_y fun Y Yh=>?_);simp [go_sem])|intro _|apply And.intro|(apply Yh;clear Yh Y)));all_goals first|apply Hold.mk|omega|with_reducible assumption|skip))
    (refine callA_l [900010] (.inl ⟨rfl,rfl⟩) (by simp [go_sem]) ?_; intro args ha; simp [go_sem] at ha; subst ha; refine ⟨_, _, (hRp gx), (by simp [go_sem]), ?_⟩; rintro ps r hps ⟨⟨x, rfl⟩, rfl⟩; simp [go_sem]; ((repeat' (first|(refine ag_x ?_;simp [go_sem])|refine adr_nil ?_|refine adr_two ?_ ?_|((first|refine adr_qs fun Y Yh=>?_|refine adr_y fun Y Yh=>?_);simp [go_sem])|intro _|apply And.intro|(apply Yh;clear Yh Y)));all_goals first|apply Hold.mk|omega|with_reducible assumption|skip))
    ((refine awp_dr (.qs [2, 3, 4, 0, 1] (.kp 5 (.kp 6 (.qs [7, 8] (.nil))))) (by kernel_rfl) ?_ ?_ ?_ ?_); (kernel_rfl); (exact (by decide +kernel)); (kernel_rfl); intro Y Yh; ((repeat' (first|(refine ag_x ?_;simp [go_sem, ba_app])|refine adr_nil ?_|((first|refine adr_qs fun Y Yh=>?_|refine adr_y fun Y Yh=>?_);simp [go_sem, ba_app])|intro _|apply And.intro|(apply Yh;clear Yh Y)));all_goals first|apply Hold.mk|omega|with_reducible assumption|skip))
    ((try refine CallT.toA ?_); refine callT_f (.inl ⟨rfl,rfl⟩) ?_; intro args ha; simp [go_sem] at ha; subst ha; refine ⟨_, hSh, ?_⟩; rintro _ rfl; refine ⟨rfl, ?_⟩; simp [go_sem]; ((repeat' (first|(refine ag_x ?_;simp [go_sem])|refine adr_nil ?_|((first|refine adr_qs fun Y Yh=>?_|refine adr_y fun Y Yh=>?_);simp [go_sem])|intro _|apply And.intro|(apply Yh;clear Yh Y)));all_goals first|apply Hold.mk|omega|with_reducible assumption|skip))
    ((try refine CallT.toA ?_); refine callT_f (.inl ⟨rfl,rfl⟩) ?_; intro args ha; simp [go_sem] at ha; subst ha; refine ⟨_, hPd, ?_⟩; rintro _ rfl; refine ⟨rfl, ?_⟩; simp [go_sem]; ((repeat' (first|(refine ag_x ?_;simp [go_sem])|refine adr_nil ?_|((first|refine adr_qs fun Y Yh=>?_|refine adr_y fun Y Yh=>?_);simp [go_sem])|intro _|apply And.intro|(apply Yh;clear Yh Y)));all_goals first|apply Hold.mk|omega|with_reducible assumption|skip))
    (refine awp_ret ?_; simp [go_sem, eV])
   ·refine callA_frz 38 rfl ?_
    (refine callA_l [900010] (.inl ⟨rfl,rfl⟩) (by simp [go_sem]) ?_; intro args ha; simp [go_sem] at ha; subst ha; refine ⟨_, _, newr_spec, (by simp [go_sem]), ?_⟩; rintro ps r hps ⟨gx, rfl, rfl⟩; simp [go_sem]; ((repeat' (first|(refine ag_x ?_;simp [go_sem])|refine adr_nil ?_|((first|refine adr_qs fun Y Yh=>?_|refine adr_y fun Y Yh=>?_);simp [go_sem])|intro _|apply And.intro|(apply Yh;clear Yh Y)));all_goals first|apply Hold.mk|omega|with_reducible assumption|skip))
    ((try refine CallT.toA ?_); refine callT_f (.inl ⟨rfl,rfl⟩) ?_; intro args ha; simp [go_sem] at ha; subst ha; refine ⟨_, hT, ?_⟩; rintro _ rfl; refine ⟨rfl, ?_⟩; simp [go_sem]; ((repeat' (first|(refine ag_x ?_;simp [go_sem])|refine adr_nil ?_|((first|refine adr_qs fun Y Yh=>?_|refine adr_y fun Y Yh=>?_);simp [go_sem])|intro _|apply And.intro|(apply Yh;clear Yh Y)));all_goals first|apply Hold.mk|omega|with_reducible assumption|skip))
    (refine callA_l [900010] (.inl ⟨rfl,rfl⟩) (by simp [go_sem]) ?_; intro args ha; simp [go_sem] at ha; subst ha; refine ⟨_, _, (hRp gx), (by simp [go_sem]), ?_⟩; rintro ps r hps ⟨⟨x, rfl⟩, rfl⟩; simp [go_sem]; ((repeat' (first|(refine ag_x ?_;simp [go_sem])|refine adr_nil ?_|((first|refine adr_qs fun Y Yh=>?_|refine adr_y fun Y Yh=>?_);simp [go_sem])|intro _|apply And.intro|(apply Yh;clear Yh Y)));all_goals first|apply Hold.mk|omega|with_reducible assumption|skip))
    ((refine awp_dr (.qs [2, 3, 4, 0, 1] (.kp 5 (.kp 6 (.qs [7, 8] (.nil))))) (by kernel_rfl) ?_ ?_ ?_ ?_); (kernel_rfl); (exact (by decide +kernel)); (kernel_rfl); intro Y Yh; ((repeat' (first|(refine ag_x ?_;simp [go_sem, ba_app])|refine adr_nil ?_|((first|refine adr_qs fun Y Yh=>?_|refine adr_y fun Y Yh=>?_);simp [go_sem, ba_app])|intro _|apply And.intro|(apply Yh;clear Yh Y)));all_goals first|apply Hold.mk|omega|with_reducible assumption|skip))
    ((try refine CallT.toA ?_); refine callT_f (.inl ⟨rfl,rfl⟩) ?_; intro args ha; simp [go_sem] at ha; subst ha; refine ⟨_, hSh, ?_⟩; rintro _ rfl; refine ⟨rfl, ?_⟩; simp [go_sem]; ((repeat' (first|(refine ag_x ?_;simp [go_sem])|refine adr_nil ?_|((first|refine adr_qs fun Y Yh=>?_|refine adr_y fun Y Yh=>?_);simp [go_sem])|intro _|apply And.intro|(apply Yh;clear Yh Y)));all_goals first|apply Hold.mk|omega|with_reducible assumption|skip))
    ((try refine CallT.toA ?_); refine callT_f (.inl ⟨rfl,rfl⟩) ?_; intro args ha; simp [go_sem] at ha; subst ha; refine ⟨_, hPd, ?_⟩; rintro _ rfl; refine ⟨rfl, ?_⟩; simp [go_sem]; ((repeat' (first|(refine ag_x ?_;simp [go_sem])|refine adr_nil ?_|((first|refine adr_qs fun Y Yh=>?_|refine adr_y fun Y Yh=>?_);simp [go_sem])|intro _|apply And.intro|(apply Yh;clear Yh Y)));all_goals first|apply Hold.mk|omega|with_reducible assumption|skip))
    (refine awp_ret ?_; simp [go_sem, eV])
   ·refine callA_frz 38 rfl ?_
    (refine callA_l [900010] (.inl ⟨rfl,rfl⟩) (by simp [go_sem]) ?_; intro args ha; simp [go_sem] at ha; subst ha; refine ⟨_, _, newr_spec, (by simp [go_sem]), ?_⟩; rintro ps r hps ⟨gx, rfl, rfl⟩; simp [go_sem]; ((repeat' (first|(refine ag_x ?_;simp [go_sem])|refine adr_nil ?_|((first|refine adr_qs fun Y Yh=>?_|refine adr_y fun Y Yh=>?_);simp [go_sem])|intro _|apply And.intro|(apply Yh;clear Yh Y)));all_goals first|apply Hold.mk|omega|with_reducible assumption|skip))
    ((try refine CallT.toA ?_); refine callT_f (.inl ⟨rfl,rfl⟩) ?_; intro args ha; simp [go_sem] at ha; subst ha; refine ⟨_, hT, ?_⟩; rintro _ rfl; refine ⟨rfl, ?_⟩; simp [go_sem]; ((repeat' (first|(refine ag_x ?_;simp [go_sem])|refine adr_nil ?_|((first|refine adr_qs fun Y Yh=>?_|refine adr_y fun Y Yh=>?_);simp [go_sem])|intro _|apply And.intro|(apply Yh;clear Yh Y)));all_goals first|apply Hold.mk|omega|with_reducible assumption|skip))
    (refine callA_l [900010] (.inl ⟨rfl,rfl⟩) (by simp [go_sem]) ?_; intro args ha; simp [go_sem] at ha; subst ha; refine ⟨_, _, (hRp gx), (by simp [go_sem]), ?_⟩; rintro ps r hps ⟨⟨x, rfl⟩, rfl⟩; simp [go_sem]; ((repeat' (first|(refine ag_x ?_;simp [go_sem])|refine adr_nil ?_|((first|refine adr_qs fun Y Yh=>?_|refine adr_y fun Y Yh=>?_);simp [go_sem])|intro _|apply And.intro|(apply Yh;clear Yh Y)));all_goals first|apply Hold.mk|omega|with_reducible assumption|skip))
    ((refine awp_dr (.qs [2, 3, 4, 0, 1] (.kp 5 (.kp 6 (.qs [7, 8] (.nil))))) (by kernel_rfl) ?_ ?_ ?_ ?_); (kernel_rfl); (exact (by decide +kernel)); (kernel_rfl); intro Y Yh; ((repeat' (first|(refine ag_x ?_;simp [go_sem, ba_app])|refine adr_nil ?_|((first|refine adr_qs fun Y Yh=>?_|refine adr_y fun Y Yh=>?_);simp [go_sem, ba_app])|intro _|apply And.intro|(apply Yh;clear Yh Y)));all_goals first|apply Hold.mk|omega|with_reducible assumption|skip))
    ((try refine CallT.toA ?_); refine callT_f (.inl ⟨rfl,rfl⟩) ?_; intro args ha; simp [go_sem] at ha; subst ha; refine ⟨_, hSh, ?_⟩; rintro _ rfl; refine ⟨rfl, ?_⟩; simp [go_sem]; ((repeat' (first|(refine ag_x ?_;simp [go_sem])|refine adr_nil ?_|((first|refine adr_qs fun Y Yh=>?_|refine adr_y fun Y Yh=>?_);simp [go_sem])|intro _|apply And.intro|(apply Yh;clear Yh Y)));all_goals first|apply Hold.mk|omega|with_reducible assumption|skip))
    ((try refine CallT.toA ?_); refine callT_f (.inl ⟨rfl,rfl⟩) ?_; intro args ha; simp [go_sem] at ha; subst ha; refine ⟨_, hPd, ?_⟩; rintro _ rfl; refine ⟨rfl, ?_⟩; simp [go_sem]; ((repeat' (first|(refine ag_x ?_;simp [go_sem])|refine adr_nil ?_|((first|refine adr_qs fun Y Yh=>?_|refine adr_y fun Y Yh=>?_);simp [go_sem])|intro _|apply And.intro|(apply Yh;clear Yh Y)));all_goals first|apply Hold.mk|omega|with_reducible assumption|skip))
    (refine awp_ret ?_; simp [go_sem, eV])
  ·rw [if_pos (by simpa using hoe)] at eV
   (refine awp_sr fun Y Yh => ?_; simp [go_sem]; ((repeat' (first|(refine ag_x ?_;simp [go_sem])|intro _|apply And.intro|(apply Yh;clear Yh Y)));all_goals first|apply Hold.mk|omega|with_reducible assumption|skip))
   (refine awp_if fun T F hT hF => ?_; simp [go_sem, hoe]; refine hT ?_; clear hT hF T F)
   (refine awp_sr fun Y Yh => ?_; simp [go_sem]; ((repeat' (first|(refine ag_x ?_;simp [go_sem])|intro _|apply And.intro|(apply Yh;clear Yh Y)));all_goals first|apply Hold.mk|omega|with_reducible assumption|skip))
   (refine awp_ret ?_; simp [go_sem, eV])
 ·rw [if_pos (by simpa using he)] at eV
  (refine awp_sr fun Y Yh => ?_; simp [go_sem]; ((repeat' (first|(refine ag_x ?_;simp [go_sem])|intro _|apply And.intro|(apply Yh;clear Yh Y)));all_goals first|apply Hold.mk|omega|with_reducible assumption|skip))
  refine awp_renbox 3 900003 rfl rfl (by decide) fun gf => ?_
  simp only [go_sem]
  refine awp_seq_k fun K1 hK1 => ?_
  (refine awp_sr fun Y Yh => ?_; simp [go_sem]; ((repeat' (first|(refine ag_x ?_;simp [go_sem])|intro _|apply And.intro|(apply Yh;clear Yh Y)));all_goals first|apply Hold.mk|omega|with_reducible assumption|skip))
  (refine callA_l [900004, 900003] (.inl ⟨rfl,rfl⟩) (by simp [go_sem]) ?_; intro args ha; simp [go_sem] at ha; subst ha; refine ⟨_, _, (hS gf), (by simp [go_sem]), ?_⟩; rintro ps r hps ⟨rfl, rfl⟩; simp [go_sem]; ((repeat' (first|(refine ag_x ?_;simp [go_sem])|intro _|apply And.intro|(apply Yh;clear Yh Y)));all_goals first|apply Hold.mk|omega|with_reducible assumption|skip))
  (refine awp_sr fun Y Yh => ?_; simp [go_sem]; ((repeat' (first|(refine ag_x ?_;simp [go_sem])|intro _|apply And.intro|(apply Yh;clear Yh Y)));all_goals first|apply Hold.mk|omega|with_reducible assumption|skip))
  (refine awp_if fun T F hT hF => ?_; simp [go_sem, he]; refine hT ?_; clear hT hF T F)
  (refine awp_sr fun Y Yh => ?_; simp [go_sem]; ((repeat' (first|(refine ag_x ?_;simp [go_sem])|intro _|apply And.intro|(apply Yh;clear Yh Y)));all_goals first|apply Hold.mk|omega|with_reducible assumption|skip))
  (refine awp_ret ?_; simp [go_sem, eV])
theorem fillC_all {args : List Ag} (hA : AgsOk args) {form : Bs} : ∀ L, readV form = some L → ∀ f ∈ L, f.lt ≠ 0 → FillC args f := fun L hL f hf h0 u g hu => by
 obtain ⟨h1, h2, _⟩ := readV_ok hL f hf
 by_cases hp : f.lt = 112
 ·exact fill_p args u g f hA hu h1 hp
 ·exact fill_np args u g f hA hu h1 h0 (h2.resolve_left h0) hp
theorem format_spec (form : Bs) (args : List Ag) (hA : AgsOk args) (hfl : form.length ≤ 9223372036854775807) : PCall Tryz.prog 13 [dS form, dAs args] fun r => r = .tup [dS (runV form args).1, dI (runV form args).2.2] :=
 Format_spec form args hA hfl (fillC_all hA)
theorem runs_spec (form : Bs) (args : List Ag) (hA : AgsOk args) (hfl : form.length ≤ 9223372036854775807) : PCall Tryz.prog 32 [dS form, dAs args] fun r => r = .tup [dS (runV form args).1, dI (runV form args).2.1, dI (runV form args).2.2] :=
 run_spec form args hA hfl (fillC_all hA)
theorem left1_spec (f : Fld) : PCall Tryz.prog 48 [dF f] fun r => r = dB (!f.nm.isEmpty) := by 
 refine pcall_of Tryz.func48 rfl rfl Tryz.ntmps48 (rs := [.tmp 2]) (tys := [4]) rfl rfl (by simp) ?_
 (refine awp_sr fun Y Yh => ?_; simp [go_sem]; ((repeat' (first|(refine ag_x ?_;simp [go_sem])|intro _|apply And.intro|(apply Yh;clear Yh Y)));all_goals first|apply Hold.mk|omega|with_reducible assumption|skip))
 (refine awp_sr fun Y Yh => ?_; simp [go_sem]; ((repeat' (first|(refine ag_x ?_;simp [go_sem])|intro _|apply And.intro|(apply Yh;clear Yh Y)));all_goals first|apply Hold.mk|omega|with_reducible assumption|skip))
 (refine awp_ret ?_; simp [go_sem])
theorem indexF_spec (l : List Fld) (hl : l.length ≤ 1000000) : PCall Tryz.prog 70 [dFs l, .v (.func (.func 48) #[] #[])] fun r => r = dI (fIx (fun f : Fld => !f.nm.isEmpty) l) := by
 refine pcall_of Tryz.func70 rfl rfl Tryz.ntmps70 (rs := [.tmp 4]) (tys := [3]) rfl rfl (by simp) ?_
 (refine awp_sr fun Y Yh => ?_; simp [go_sem]; ((repeat' (first|(refine ag_x ?_;simp [go_sem])|intro _|apply And.intro|(apply Yh;clear Yh Y)));all_goals first|apply Hold.mk|omega|with_reducible assumption|skip))
 refine awp_seq_k fun K1 hK1 => ?_
 (refine awp_sr fun Y Yh => ?_; simp [go_sem]; ((repeat' (first|(refine ag_x ?_;simp [go_sem])|intro _|apply And.intro|(apply Yh;clear Yh Y)));all_goals first|apply Hold.mk|omega|with_reducible assumption|skip))
 refine awp_block ?_
 refine awp_loop (σ := Nat) (fun i => ⟨[(0, dFs l), (1, .v (.func (.func 48) #[] #[])), (7, dI l.length), (8, dI i)], []⟩) (fun i => i ≤ l.length ∧ (l.take i).any (fun f : Fld => !f.nm.isEmpty) = false) (fun i => l.length - i) 0 (by (refine cov_of ?_ ?_ <;> simp [go_sem])) (by simp) ?_
 rintro i ⟨hi, hany⟩
 (refine awp_sr fun Y Yh => ?_; simp [go_sem]; ((repeat' (first|(refine ag_x ?_;simp [go_sem])|intro _|apply And.intro|(apply Yh;clear Yh Y)));all_goals first|apply Hold.mk|omega|with_reducible assumption|skip))
 refine awp_seq_k fun K2 hK2 => ?_
 by_cases h3 : i < l.length
 ·(refine awp_if fun T F hT hF => ?_; simp [go_sem, h3]; refine hT ?_; clear hT hF T F)
  refine awp_skip ?_
  refine hK2 _ ?_; clear hK2
  obtain ⟨x, hx⟩ : ∃ x, l[i]? = some x := ⟨_, List.getElem?_eq_getElem (by omega)⟩
  refine awp_seq_k fun K4 hK4 => ?_
  refine awp_block ?_
  (refine awp_sr fun Y Yh => ?_; simp [go_sem]; ((repeat' (first|(refine ag_x ?_;simp [go_sem])|intro _|apply And.intro|(apply Yh;clear Yh Y)));all_goals first|apply Hold.mk|omega|with_reducible assumption|skip))
  (refine awp_sr fun Y Yh => ?_; simp [go_sem, hx]; ((repeat' (first|(refine ag_x ?_;simp [go_sem, hx])|intro _|apply And.intro|(apply Yh;clear Yh Y)));all_goals first|apply Hold.mk|omega|with_reducible assumption|skip))
  ((try refine CallT.toA ?_); refine callT_m (.inl ⟨rfl,rfl⟩) (by simp [go_sem]) ?_; intro args ha; simp [go_sem] at ha; subst ha; refine ⟨_, (left1_spec x), ?_⟩; rintro _ rfl; simp [go_sem]; ((repeat' (first|(refine ag_x ?_;simp [go_sem])|intro _|apply And.intro|(apply Yh;clear Yh Y)));all_goals first|apply Hold.mk|omega|with_reducible assumption|skip))
  cases h5 : !x.nm.isEmpty with
  | true =>
   rw [Bool.not_eq_true'] at h5
   (refine awp_if fun T F hT hF => ?_; simp [go_sem, h5]; refine hT ?_; clear hT hF T F)
   (refine awp_sr fun Y Yh => ?_; simp [go_sem]; ((repeat' (first|(refine ag_x ?_;simp [go_sem])|intro _|apply And.intro|(apply Yh;clear Yh Y)));all_goals first|apply Hold.mk|omega|with_reducible assumption|skip))
   (refine awp_ret ?_; simp [go_sem])
   rw [fIx_at hany hx (by simp [h5])]
  | false =>
   have h6 := h5
   rw [Bool.not_eq_false'] at h5
   (refine awp_if fun T F hT hF => ?_; simp [go_sem, h5]; refine hF ?_; clear hT hF T F)
   refine awp_skip ?_
   refine hK4 _ ?_; clear hK4
   (refine awp_r fun Y Yh => ?_; simp [go_sem]; ((repeat' (first|(refine ag_x ?_;simp [go_sem])|intro _|apply And.intro|(apply Yh;clear Yh Y)));all_goals first|apply Hold.mk|omega|with_reducible assumption|skip))
   refine ⟨i + 1, ?_, ⟨by omega, take_anyG hany hx h6⟩, by omega⟩
   (refine cov_of ?_ ?_ <;> simp [go_sem])
 ·(refine awp_if fun T F hT hF => ?_; simp [go_sem, h3]; refine hF ?_; clear hT hF T F)
  refine awp_exit ?_
  simp only [go_sem]
  refine hK1 _ ?_; clear hK1
  (refine awp_sr fun Y Yh => ?_; simp [go_sem]; ((repeat' (first|(refine ag_x ?_;simp [go_sem])|intro _|apply And.intro|(apply Yh;clear Yh Y)));all_goals first|apply Hold.mk|omega|with_reducible assumption|skip))
  (refine awp_ret ?_; simp [go_sem])
  have : i = l.length := by omega
  subst this
  rw [List.take_length] at hany
  rw [fIx_none hany]
theorem fIx_any {α : Type} (p : α → Bool) (l : List α) : decide (0 ≤ fIx p l) = l.any p := by
 rw [Bool.eq_iff_iff, decide_eq_true_eq]
 have h := find_fIx p l
 rcases h with ⟨h1, h2⟩ | ⟨i, a, h1, h2, h3⟩
 ·rw [h2]
  constructor
  ·intro q; omega
  ·intro q
   rw [List.any_eq_true] at q
   obtain ⟨x, hx, hp⟩ := q
   exact absurd hp (List.find?_eq_none.1 h1 x hx)
 ·rw [h2]
  refine ⟨fun _ => ?_, fun _ => by omega⟩
  exact List.any_eq_true.2 ⟨a, List.mem_of_getElem? h3, List.find?_some h1⟩
theorem containsF_spec (l : List Fld) (hl : l.length ≤ 1000000) : PCall Tryz.prog 47 [dFs l, .v (.func (.func 48) #[] #[])] fun r => r = dB (l.any fun f : Fld => !f.nm.isEmpty) := by
 refine pcall_of Tryz.func47 rfl rfl Tryz.ntmps47 (rs := [.tmp 4]) (tys := [4]) rfl rfl (by simp) ?_
 have hI := indexF_spec l hl
 have ha := fIx_any (fun f : Fld => !f.nm.isEmpty) l
 generalize fIx (fun f : Fld => !f.nm.isEmpty) l = j at *
 generalize (l.any fun f : Fld => !f.nm.isEmpty) = b at *
 (refine awp_sr fun Y Yh => ?_; simp [go_sem]; ((repeat' (first|(refine ag_x ?_;simp [go_sem])|intro _|apply And.intro|(apply Yh;clear Yh Y)));all_goals first|apply Hold.mk|omega|with_reducible assumption|skip))
 (refine awp_sr fun Y Yh => ?_; simp [go_sem]; ((repeat' (first|(refine ag_x ?_;simp [go_sem])|intro _|apply And.intro|(apply Yh;clear Yh Y)));all_goals first|apply Hold.mk|omega|with_reducible assumption|skip))
 ((try refine CallT.toA ?_); refine callT_f (.inl ⟨rfl,rfl⟩) ?_; intro args ha; simp [go_sem] at ha; subst ha; refine ⟨_, hI, ?_⟩; rintro _ rfl; refine ⟨rfl, ?_⟩; simp [go_sem]; ((repeat' (first|(refine ag_x ?_;simp [go_sem])|intro _|apply And.intro|(apply Yh;clear Yh Y)));all_goals first|apply Hold.mk|omega|with_reducible assumption|skip))
 (refine awp_ret ?_; simp [go_sem, ha])
def leftV (form : Bs) (args : List Ag) : Int × Nat := match readV form with
 | none => (0, 4)
 | some L => if (fillsV args L 0 []).2.2 ≠ 0 ∨ (L.any fun f : Fld => !f.nm.isEmpty) = true then (0, (fillsV args L 0 []).2.2) else ((args.length : Int) - (fillsV args L 0 []).2.1, 0)
theorem fills_used {args : List Ag} : ∀ (L : List Fld) (u : Nat) (out : Bs), u ≤ args.length → (fillsV args L u out).2.1 ≤ args.length
 | [], u, out, h => h
 | f :: L, u, out, h => by
  have := fill_le h f
  unfold fillsV
  simp only
  split
  ·simp
  ·split
   ·simp
   ·exact fills_used L _ _ this
set_option maxHeartbeats 8000000 in
theorem left_spec (form : Bs) (args : List Ag) (hA : AgsOk args) (hfl : form.length ≤ 9223372036854775807) : PCall Tryz.prog 28 [dS form, dAs args] fun r => r = .tup [dI (leftV form args).1, dI (leftV form args).2] := by 
 refine pcall_of Tryz.func28 rfl rfl Tryz.ntmps28 (rs := [.tmp 4, .tmp 5]) (tys := [3, 34]) rfl rfl (by simp) ?_
 have hR := runs_spec form args hA hfl
 have hD := read_spec form hfl
 have hal := hA.1
 unfold leftV
 unfold runV at hR
 cases hr : readV form with
 | none =>
  rw [hr] at hR hD
  simp only at hR ⊢
  (refine awp_sr fun Y Yh => ?_; simp [go_sem]; ((repeat' (first|(refine ag_x ?_;simp [go_sem])|intro _|apply And.intro|(apply Yh;clear Yh Y)));all_goals first|apply Hold.mk|omega|with_reducible assumption|skip))
  (refine awp_sr fun Y Yh => ?_; simp [go_sem]; ((repeat' (first|(refine ag_x ?_;simp [go_sem])|intro _|apply And.intro|(apply Yh;clear Yh Y)));all_goals first|apply Hold.mk|omega|with_reducible assumption|skip))
  ((try refine CallT.toA ?_); refine callT_m (.inl ⟨rfl,rfl⟩) (by simp [go_sem]) ?_; intro args ha; simp [go_sem] at ha; subst ha; refine ⟨_, hR, ?_⟩; rintro _ rfl; simp [go_sem]; ((repeat' (first|(refine ag_x ?_;simp [go_sem])|intro _|apply And.intro|(apply Yh;clear Yh Y)));all_goals first|apply Hold.mk|omega|with_reducible assumption|skip))
  (refine awp_sr fun Y Yh => ?_; simp [go_sem]; ((repeat' (first|(refine ag_x ?_;simp [go_sem])|intro _|apply And.intro|(apply Yh;clear Yh Y)));all_goals first|apply Hold.mk|omega|with_reducible assumption|skip))
  ((try refine CallT.toA ?_); refine callT_m (.inl ⟨rfl,rfl⟩) (by simp [go_sem]) ?_; intro args ha; simp [go_sem] at ha; subst ha; refine ⟨_, hD, ?_⟩; rintro _ ⟨L', rfl⟩; simp [go_sem]; ((repeat' (first|(refine ag_x ?_;simp [go_sem])|intro _|apply And.intro|(apply Yh;clear Yh Y)));all_goals first|apply Hold.mk|omega|with_reducible assumption|skip))
  refine awp_seq_k fun K1 hK1 => ?_
  (refine awp_sr fun Y Yh => ?_; simp [go_sem]; ((repeat' (first|(refine ag_false ?_ ?_ ?_;(focus (simp [go_sem, undef];done));(focus (simp [go_sem];done));simp [go_sem])|(refine ag_true ?_ ?_;(focus (simp [go_sem, undef];done));simp [go_sem])|(refine ag_x ?_;simp [go_sem, undef])|intro _|apply And.intro|(apply Yh;clear Yh Y)));all_goals first|apply Hold.mk|omega|with_reducible assumption|skip))
  (refine awp_if fun T F hT hF => ?_; simp [go_sem]; refine hT ?_; clear hT hF T F)
  (refine awp_sr fun Y Yh => ?_; simp [go_sem]; ((repeat' (first|(refine ag_x ?_;simp [go_sem])|intro _|apply And.intro|(apply Yh;clear Yh Y)));all_goals first|apply Hold.mk|omega|with_reducible assumption|skip))
  (refine awp_ret ?_; simp [go_sem])
 | some L =>
  rw [hr] at hR hD
  have hlen : L.length ≤ 100000 := readV_len hr
  have hu := fills_used (args := args) L 0 [] (by omega)
  have hC := containsF_spec L (by omega)
  simp only at hR ⊢
  generalize fillsV args L 0 [] = q at *
  generalize (L.any fun f : Fld => !f.nm.isEmpty) = b at *
  obtain ⟨t, u, e⟩ := q
  simp only at hR hu ⊢
  (refine awp_sr fun Y Yh => ?_; simp [go_sem]; ((repeat' (first|(refine ag_x ?_;simp [go_sem])|intro _|apply And.intro|(apply Yh;clear Yh Y)));all_goals first|apply Hold.mk|omega|with_reducible assumption|skip))
  (refine awp_sr fun Y Yh => ?_; simp [go_sem]; ((repeat' (first|(refine ag_x ?_;simp [go_sem])|intro _|apply And.intro|(apply Yh;clear Yh Y)));all_goals first|apply Hold.mk|omega|with_reducible assumption|skip))
  ((try refine CallT.toA ?_); refine callT_m (.inl ⟨rfl,rfl⟩) (by simp [go_sem]) ?_; intro args ha; simp [go_sem] at ha; subst ha; refine ⟨_, hR, ?_⟩; rintro _ rfl; simp [go_sem]; ((repeat' (first|(refine ag_x ?_;simp [go_sem])|intro _|apply And.intro|(apply Yh;clear Yh Y)));all_goals first|apply Hold.mk|omega|with_reducible assumption|skip))
  (refine awp_sr fun Y Yh => ?_; simp [go_sem]; ((repeat' (first|(refine ag_x ?_;simp [go_sem])|intro _|apply And.intro|(apply Yh;clear Yh Y)));all_goals first|apply Hold.mk|omega|with_reducible assumption|skip))
  ((try refine CallT.toA ?_); refine callT_m (.inl ⟨rfl,rfl⟩) (by simp [go_sem]) ?_; intro args ha; simp [go_sem] at ha; subst ha; refine ⟨_, hD, ?_⟩; rintro _ rfl; simp [go_sem]; ((repeat' (first|(refine ag_x ?_;simp [go_sem])|intro _|apply And.intro|(apply Yh;clear Yh Y)));all_goals first|apply Hold.mk|omega|with_reducible assumption|skip))
  refine awp_seq_k fun K1 hK1 => ?_
  by_cases he : e = 0
  ·subst he
   (refine awp_sr fun Y Yh => ?_; simp [go_sem]; ((repeat' (first|(refine ag_false ?_ ?_ ?_;(focus (simp [go_sem, undef];done));(focus (simp [go_sem];done));simp [go_sem])|(refine ag_true ?_ ?_;(focus (simp [go_sem, undef];done));simp [go_sem])|(refine ag_x ?_;simp [go_sem, undef])|intro _|apply And.intro|(apply Yh;clear Yh Y)));all_goals first|apply Hold.mk|omega|with_reducible assumption|skip))
   ((try refine CallT.toA ?_); refine callT_m (.inl ⟨rfl,rfl⟩) (by simp [go_sem]) ?_; intro args ha; simp [go_sem] at ha; subst ha; refine ⟨_, hC, ?_⟩; rintro _ rfl; simp [go_sem]; ((repeat' (first|(refine ag_false ?_ ?_ ?_;(focus (simp [go_sem, undef];done));(focus (simp [go_sem];done));simp [go_sem])|(refine ag_true ?_ ?_;(focus (simp [go_sem, undef];done));simp [go_sem])|(refine ag_x ?_;simp [go_sem, undef])|intro _|apply And.intro|(apply Yh;clear Yh Y)));all_goals first|apply Hold.mk|omega|with_reducible assumption|skip))
   cases b with
   | true =>
    (refine awp_if fun T F hT hF => ?_; simp [go_sem]; refine hT ?_; clear hT hF T F)
    (refine awp_sr fun Y Yh => ?_; simp [go_sem]; ((repeat' (first|(refine ag_x ?_;simp [go_sem])|intro _|apply And.intro|(apply Yh;clear Yh Y)));all_goals first|apply Hold.mk|omega|with_reducible assumption|skip))
    (refine awp_ret ?_; simp [go_sem])
   | false =>
    (refine awp_if fun T F hT hF => ?_; simp [go_sem]; refine hF ?_; clear hT hF T F)
    refine awp_skip ?_
    refine hK1 _ ?_; clear hK1
    (refine awp_sr fun Y Yh => ?_; simp [go_sem]; ((repeat' (first|(refine ag_x ?_;simp [go_sem])|intro _|apply And.intro|(apply Yh;clear Yh Y)));all_goals first|apply Hold.mk|omega|with_reducible assumption|skip))
    (refine awp_ret ?_; simp [go_sem])
  ·have hz : ((e : Int) = 0) = False := by simp; omega
   (refine awp_sr fun Y Yh => ?_; simp [go_sem, he, hz]; ((repeat' (first|(refine ag_false ?_ ?_ ?_;(focus (simp [go_sem, undef, he, hz];done));(focus (simp [go_sem];done));simp [go_sem, he, hz])|(refine ag_true ?_ ?_;(focus (simp [go_sem, undef, he, hz];done));simp [go_sem, he, hz])|(refine ag_x ?_;simp [go_sem, undef, he, hz])|intro _|apply And.intro|(apply Yh;clear Yh Y)));all_goals first|apply Hold.mk|omega|with_reducible assumption|skip))
   (refine awp_if fun T F hT hF => ?_; simp [go_sem]; refine hT ?_; clear hT hF T F)
   (refine awp_sr fun Y Yh => ?_; simp [go_sem]; ((repeat' (first|(refine ag_x ?_;simp [go_sem])|intro _|apply And.intro|(apply Yh;clear Yh Y)));all_goals first|apply Hold.mk|omega|with_reducible assumption|skip))
   (refine awp_ret ?_; simp [go_sem, he])
theorem check_spec (form : Bs) (hfl : form.length ≤ 9223372036854775807) : PCall Tryz.prog 30 [dS form] fun r => r = dI (if (readV form).isSome then 0 else 4) := by 
 refine pcall_of Tryz.func30 rfl rfl Tryz.ntmps30 (rs := [.tmp 2]) (tys := [34]) rfl rfl (by simp) ?_
 have hD := read_spec form hfl
 cases hr : readV form with
 | none =>
  rw [hr] at hD
  (refine awp_sr fun Y Yh => ?_; simp [go_sem]; ((repeat' (first|(refine ag_x ?_;simp [go_sem])|intro _|apply And.intro|(apply Yh;clear Yh Y)));all_goals first|apply Hold.mk|omega|with_reducible assumption|skip))
  refine awp_seq_k fun K1 hK1 => ?_
  (refine awp_sr fun Y Yh => ?_; simp [go_sem]; ((repeat' (first|(refine ag_x ?_;simp [go_sem])|intro _|apply And.intro|(apply Yh;clear Yh Y)));all_goals first|apply Hold.mk|omega|with_reducible assumption|skip))
  ((try refine CallT.toA ?_); refine callT_m (.inl ⟨rfl,rfl⟩) (by simp [go_sem]) ?_; intro args ha; simp [go_sem] at ha; subst ha; refine ⟨_, hD, ?_⟩; rintro _ ⟨L', rfl⟩; simp [go_sem]; ((repeat' (first|(refine ag_x ?_;simp [go_sem])|intro _|apply And.intro|(apply Yh;clear Yh Y)));all_goals first|apply Hold.mk|omega|with_reducible assumption|skip))
  (refine awp_sr fun Y Yh => ?_; simp [go_sem]; ((repeat' (first|(refine ag_x ?_;simp [go_sem])|intro _|apply And.intro|(apply Yh;clear Yh Y)));all_goals first|apply Hold.mk|omega|with_reducible assumption|skip))
  (refine awp_if fun T F hT hF => ?_; simp [go_sem]; refine hT ?_; clear hT hF T F)
  (refine awp_sr fun Y Yh => ?_; simp [go_sem]; ((repeat' (first|(refine ag_x ?_;simp [go_sem])|intro _|apply And.intro|(apply Yh;clear Yh Y)));all_goals first|apply Hold.mk|omega|with_reducible assumption|skip))
  (refine awp_ret ?_; simp [go_sem])
 | some L =>
  rw [hr] at hD
  (refine awp_sr fun Y Yh => ?_; simp [go_sem]; ((repeat' (first|(refine ag_x ?_;simp [go_sem])|intro _|apply And.intro|(apply Yh;clear Yh Y)));all_goals first|apply Hold.mk|omega|with_reducible assumption|skip))
  refine awp_seq_k fun K1 hK1 => ?_
  (refine awp_sr fun Y Yh => ?_; simp [go_sem]; ((repeat' (first|(refine ag_x ?_;simp [go_sem])|intro _|apply And.intro|(apply Yh;clear Yh Y)));all_goals first|apply Hold.mk|omega|with_reducible assumption|skip))
  ((try refine CallT.toA ?_); refine callT_m (.inl ⟨rfl,rfl⟩) (by simp [go_sem]) ?_; intro args ha; simp [go_sem] at ha; subst ha; refine ⟨_, hD, ?_⟩; rintro _ rfl; simp [go_sem]; ((repeat' (first|(refine ag_x ?_;simp [go_sem])|intro _|apply And.intro|(apply Yh;clear Yh Y)));all_goals first|apply Hold.mk|omega|with_reducible assumption|skip))
  (refine awp_sr fun Y Yh => ?_; simp [go_sem]; ((repeat' (first|(refine ag_x ?_;simp [go_sem])|intro _|apply And.intro|(apply Yh;clear Yh Y)));all_goals first|apply Hold.mk|omega|with_reducible assumption|skip))
  (refine awp_if fun T F hT hF => ?_; simp [go_sem]; refine hF ?_; clear hT hF T F)
  refine awp_skip ?_
  refine hK1 _ ?_; clear hK1
  (refine awp_sr fun Y Yh => ?_; simp [go_sem]; ((repeat' (first|(refine ag_x ?_;simp [go_sem])|intro _|apply And.intro|(apply Yh;clear Yh Y)));all_goals first|apply Hold.mk|omega|with_reducible assumption|skip))
  (refine awp_ret ?_; simp [go_sem])
theorem rformat_spec (form : Bs) (args : List Ag) (hA : AgsOk args) (hfl : form.length ≤ 9223372036854775807) : PCall Tryz.prog 23 [dS form, dAs args] fun r => r = .tup [dS (runV form args).1, dI (runV form args).2.2] := by 
 refine pcall_of Tryz.func23 rfl rfl Tryz.ntmps23 (rs := [.tmp 4, .tmp 5]) (tys := [9, 34]) rfl rfl (by simp) ?_
 have hR := filling_spec form args hA hfl
 generalize runV form args = q at *
 obtain ⟨t, u, e⟩ := q
 (refine awp_sr fun Y Yh => ?_; simp [go_sem]; ((repeat' (first|(refine ag_x ?_;simp [go_sem])|intro _|apply And.intro|(apply Yh;clear Yh Y)));all_goals first|apply Hold.mk|omega|with_reducible assumption|skip))
 (refine awp_sr fun Y Yh => ?_; simp [go_sem]; ((repeat' (first|(refine ag_x ?_;simp [go_sem])|intro _|apply And.intro|(apply Yh;clear Yh Y)));all_goals first|apply Hold.mk|omega|with_reducible assumption|skip))
 ((try refine CallT.toA ?_); refine callT_m (.inl ⟨rfl,rfl⟩) (by simp [go_sem]) ?_; intro args ha; simp [go_sem] at ha; subst ha; refine ⟨_, hR, ?_⟩; rintro _ rfl; simp [go_sem]; ((repeat' (first|(refine ag_x ?_;simp [go_sem])|intro _|apply And.intro|(apply Yh;clear Yh Y)));all_goals first|apply Hold.mk|omega|with_reducible assumption|skip))
 (refine awp_sr fun Y Yh => ?_; simp [go_sem]; ((repeat' (first|(refine ag_x ?_;simp [go_sem])|intro _|apply And.intro|(apply Yh;clear Yh Y)));all_goals first|apply Hold.mk|omega|with_reducible assumption|skip))
 (refine awp_ret ?_; simp [go_sem])
theorem any_named (form : Bs) {L : List Rf} {a b : Nat} (hr : rReadV form = some (L, a, b)) : ((convL L).any fun f : Fld => !f.nm.isEmpty) = decide (0 < a) := by
 have hc : a = cntN L := by
  unfold rReadV at hr
  split at hr
  ·cases hr
  ·exact (read_cnt _ _ _ _ _ _ _ _ hr rfl rfl).1
 have hnm : ∀ f ∈ L, f.lt = 0 → f.nm = [] := by
  unfold rReadV at hr
  split at hr
  ·cases hr
  ·exact read_nm _ _ _ _ _ _ _ _ hr (by simp)
 rw [hc]
 clear hc hr
 rw [Bool.eq_iff_iff, List.any_eq_true, decide_eq_true_eq]
 unfold cntN
 rw [List.countP_pos_iff]
 constructor
 ·rintro ⟨g, hg, hq⟩
  unfold convL at hg
  obtain ⟨f, hf, hg⟩ := List.mem_flatMap.1 hg
  unfold conv1 at hg
  split at hg
  ·split at hg
   ·simp at hg
   ·rw [List.mem_singleton] at hg; subst hg; simp [fdT] at hq
  ·rename_i h0
   rw [List.mem_singleton] at hg
   subst hg
   refine ⟨f, hf, ?_⟩
   simp only [Bool.and_eq_true, bne_iff_ne]
   refine ⟨h0, fun q => ?_⟩
   simp [toFd, q] at hq
 ·rintro ⟨f, hf, hq⟩
  simp only [Bool.and_eq_true, bne_iff_ne] at hq
  refine ⟨toFd f, List.mem_flatMap.2 ⟨f, hf, ?_⟩, ?_⟩
  ·unfold conv1; rw [if_neg hq.1]; simp
  ·cases h : f.nm with
   | nil => exact absurd h hq.2
   | cons x y => simp [toFd, h]
theorem leftV_r (form : Bs) (args : List Ag) : leftV form args = match rReadV form with
  | none => (0, 4)
  | some (L, a, b) => if 0 < a ∧ 0 < b then (0, 4) else if (runV form args).2.2 ≠ 0 then (0, (runV form args).2.2) else if 0 < a then (0, 0) else ((args.length : Int) - (runV form args).2.1, 0) := by
 unfold leftV
 have hrun : ∀ L, readV form = some L → fillsV args L 0 [] = runV form args := fun L h => by unfold runV; rw [h]
 cases hr : rReadV form with
 | none =>
  have : readV form = none := by rw [readV_same, hr]; rfl
  rw [this]
 | some q =>
  obtain ⟨L, a, b⟩ := q
  simp only
  by_cases h : 0 < a ∧ 0 < b
  ·have : readV form = none := by rw [readV_same, hr]; simp only [endV, if_pos h]
   rw [this, if_pos h]
  ·have e : readV form = some (convL L) := by rw [readV_same, hr]; simp only [endV, if_neg h]
   rw [if_neg h, e]
   simp only
   rw [hrun _ e, any_named form hr]
   by_cases he : (runV form args).2.2 ≠ 0
   ·rw [if_pos (.inl he), if_pos he]
   ·rw [if_neg he]
    by_cases ha : 0 < a
    ·rw [if_pos (.inr (by simpa using ha)), if_pos ha, Classical.not_not.1 he]
    ·rw [if_neg (by rintro (q | q); exact he q; exact ha (by simpa using q)), if_neg ha]
theorem run_used {form : Bs} {args : List Ag} : (runV form args).2.1 ≤ args.length := by
 unfold runV
 split
 ·simp
 ·exact fills_used _ _ _ (by omega)
theorem left_cases (form : Bs) (args : List Ag) : ((runV form args).2.2 ≠ 0 ∧ leftV form args = (0, (runV form args).2.2)) ∨ ((runV form args).2.2 = 0 ∧ ∃ L a b, rReadV form = some (L, a, b) ∧ ¬ (0 < a ∧ 0 < b) ∧ leftV form args = if 0 < a then (0, 0) else ((args.length : Int) - (runV form args).2.1, 0)) := by
 rw [leftV_r]
 cases hr : rReadV form with
 | none =>
  have h : (runV form args).2.2 = 4 := by rw [runV_r, hr]
  left
  rw [h]
  exact ⟨by decide, rfl⟩
 | some q =>
  obtain ⟨L, a, b⟩ := q
  simp only
  by_cases hab : 0 < a ∧ 0 < b
  ·have h : (runV form args).2.2 = 4 := by rw [runV_r, hr]; simp only; rw [if_pos hab]
   left
   rw [h, if_pos hab]
   exact ⟨by decide, rfl⟩
  ·rw [if_neg hab]
   by_cases he : (runV form args).2.2 = 0
   ·right
    refine ⟨he, L, a, b, rfl, hab, ?_⟩
    rw [if_neg (by rw [he]; simp)]
   ·left
    exact ⟨he, by rw [if_pos he]⟩
set_option maxHeartbeats 8000000 in
theorem rleft_spec (form : Bs) (args : List Ag) (hA : AgsOk args) (hfl : form.length ≤ 9223372036854775807) : PCall Tryz.prog 29 [dS form, dAs args] fun r => r = .tup [dI (leftV form args).1, dI (leftV form args).2] := by 
 refine pcall_of Tryz.func29 rfl rfl Tryz.ntmps29 (rs := [.tmp 4, .tmp 5]) (tys := [3, 34]) rfl rfl (by simp) ?_
 have hR := filling_spec form args hA hfl
 have hD := rread_spec form hfl
 have hal := hA.1
 have hu := run_used (form := form) (args := args)
 rcases left_cases form args with ⟨he, hV⟩ | ⟨he, L, a, b, hr, hab, hV⟩
 ·rw [hV]
  generalize runV form args = q at *
  obtain ⟨t, u, e⟩ := q
  simp only at hR he ⊢
  (refine awp_sr fun Y Yh => ?_; simp [go_sem]; ((repeat' (first|(refine ag_x ?_;simp [go_sem])|intro _|apply And.intro|(apply Yh;clear Yh Y)));all_goals first|apply Hold.mk|omega|with_reducible assumption|skip))
  (refine awp_sr fun Y Yh => ?_; simp [go_sem]; ((repeat' (first|(refine ag_x ?_;simp [go_sem])|intro _|apply And.intro|(apply Yh;clear Yh Y)));all_goals first|apply Hold.mk|omega|with_reducible assumption|skip))
  ((try refine CallT.toA ?_); refine callT_m (.inl ⟨rfl,rfl⟩) (by simp [go_sem]) ?_; intro args ha; simp [go_sem] at ha; subst ha; refine ⟨_, hR, ?_⟩; rintro _ rfl; simp [go_sem]; ((repeat' (first|(refine ag_x ?_;simp [go_sem])|intro _|apply And.intro|(apply Yh;clear Yh Y)));all_goals first|apply Hold.mk|omega|with_reducible assumption|skip))
  refine awp_seq_k fun K1 hK1 => ?_
  (refine awp_sr fun Y Yh => ?_; simp [go_sem]; ((repeat' (first|(refine ag_x ?_;simp [go_sem])|intro _|apply And.intro|(apply Yh;clear Yh Y)));all_goals first|apply Hold.mk|omega|with_reducible assumption|skip))
  (refine awp_if fun T F hT hF => ?_; simp [go_sem, he]; refine hT ?_; clear hT hF T F)
  (refine awp_sr fun Y Yh => ?_; simp [go_sem]; ((repeat' (first|(refine ag_x ?_;simp [go_sem])|intro _|apply And.intro|(apply Yh;clear Yh Y)));all_goals first|apply Hold.mk|omega|with_reducible assumption|skip))
  (refine awp_ret ?_; simp [go_sem])
 ·rw [hV]
  rw [hr] at hD
  generalize runV form args = q at *
  obtain ⟨t, u, e⟩ := q
  simp only at hR he hu ⊢
  subst he
  simp only [rrR] at hD
  generalize hlo : (decide (a = 0) || decide (b = 0)) = lo at *
  (refine awp_sr fun Y Yh => ?_; simp [go_sem]; ((repeat' (first|(refine ag_x ?_;simp [go_sem])|intro _|apply And.intro|(apply Yh;clear Yh Y)));all_goals first|apply Hold.mk|omega|with_reducible assumption|skip))
  (refine awp_sr fun Y Yh => ?_; simp [go_sem]; ((repeat' (first|(refine ag_x ?_;simp [go_sem])|intro _|apply And.intro|(apply Yh;clear Yh Y)));all_goals first|apply Hold.mk|omega|with_reducible assumption|skip))
  ((try refine CallT.toA ?_); refine callT_m (.inl ⟨rfl,rfl⟩) (by simp [go_sem]) ?_; intro args ha; simp [go_sem] at ha; subst ha; refine ⟨_, hR, ?_⟩; rintro _ rfl; simp [go_sem]; ((repeat' (first|(refine ag_x ?_;simp [go_sem])|intro _|apply And.intro|(apply Yh;clear Yh Y)));all_goals first|apply Hold.mk|omega|with_reducible assumption|skip))
  refine awp_seq_k fun K1 hK1 => ?_
  (refine awp_sr fun Y Yh => ?_; simp [go_sem]; ((repeat' (first|(refine ag_x ?_;simp [go_sem])|intro _|apply And.intro|(apply Yh;clear Yh Y)));all_goals first|apply Hold.mk|omega|with_reducible assumption|skip))
  (refine awp_if fun T F hT hF => ?_; simp [go_sem]; refine hF ?_; clear hT hF T F)
  refine awp_skip ?_
  refine hK1 _ ?_; clear hK1
  refine awp_seq_k fun K3 hK3 => ?_
  (refine awp_sr fun Y Yh => ?_; simp [go_sem]; ((repeat' (first|(refine ag_x ?_;simp [go_sem])|intro _|apply And.intro|(apply Yh;clear Yh Y)));all_goals first|apply Hold.mk|omega|with_reducible assumption|skip))
  ((try refine CallT.toA ?_); refine callT_m (.inl ⟨rfl,rfl⟩) (by simp [go_sem]) ?_; intro args ha; simp [go_sem] at ha; subst ha; refine ⟨_, hD, ?_⟩; rintro _ rfl; simp [go_sem]; ((repeat' (first|(refine ag_x ?_;simp [go_sem])|intro _|apply And.intro|(apply Yh;clear Yh Y)));all_goals first|apply Hold.mk|omega|with_reducible assumption|skip))
  (refine awp_sr fun Y Yh => ?_; simp [go_sem]; ((repeat' (first|(refine ag_x ?_;simp [go_sem])|intro _|apply And.intro|(apply Yh;clear Yh Y)));all_goals first|apply Hold.mk|omega|with_reducible assumption|skip))
  by_cases ha : 0 < a
  ·(refine awp_if fun T F hT hF => ?_; simp [go_sem, ha]; refine hT ?_; clear hT hF T F)
   (refine awp_sr fun Y Yh => ?_; simp [go_sem]; ((repeat' (first|(refine ag_x ?_;simp [go_sem])|intro _|apply And.intro|(apply Yh;clear Yh Y)));all_goals first|apply Hold.mk|omega|with_reducible assumption|skip))
   (refine awp_ret ?_; simp [go_sem, ha])
  ·(refine awp_if fun T F hT hF => ?_; simp [go_sem, ha]; refine hF ?_; clear hT hF T F)
   refine awp_skip ?_
   refine hK3 _ ?_; clear hK3
   (refine awp_sr fun Y Yh => ?_; simp [go_sem]; ((repeat' (first|(refine ag_x ?_;simp [go_sem])|intro _|apply And.intro|(apply Yh;clear Yh Y)));all_goals first|apply Hold.mk|omega|with_reducible assumption|skip))
   (refine awp_ret ?_; simp [go_sem, ha])
theorem rcheck_spec (form : Bs) (hfl : form.length ≤ 9223372036854775807) : PCall Tryz.prog 31 [dS form] fun r => r = dI (if (readV form).isSome then 0 else 4) := by 
 refine pcall_of Tryz.func31 rfl rfl Tryz.ntmps31 (rs := [.tmp 2]) (tys := [34]) rfl rfl (by simp) ?_
 have hD := rread_spec form hfl
 rw [readV_same]
 cases hr : rReadV form with
 | none =>
  rw [hr] at hD
  simp only [rrR] at hD
  (refine awp_sr fun Y Yh => ?_; simp [go_sem]; ((repeat' (first|(refine ag_x ?_;simp [go_sem])|intro _|apply And.intro|(apply Yh;clear Yh Y)));all_goals first|apply Hold.mk|omega|with_reducible assumption|skip))
  refine awp_seq_k fun K1 hK1 => ?_
  (refine awp_sr fun Y Yh => ?_; simp [go_sem]; ((repeat' (first|(refine ag_x ?_;simp [go_sem])|intro _|apply And.intro|(apply Yh;clear Yh Y)));all_goals first|apply Hold.mk|omega|with_reducible assumption|skip))
  ((try refine CallT.toA ?_); refine callT_m (.inl ⟨rfl,rfl⟩) (by simp [go_sem]) ?_; intro args ha; simp [go_sem] at ha; subst ha; refine ⟨_, hD, ?_⟩; rintro _ rfl; simp [go_sem]; ((repeat' (first|(refine ag_x ?_;simp [go_sem])|intro _|apply And.intro|(apply Yh;clear Yh Y)));all_goals first|apply Hold.mk|omega|with_reducible assumption|skip))
  (refine awp_sr fun Y Yh => ?_; simp [go_sem]; ((repeat' (first|(refine ag_x ?_;simp [go_sem])|intro _|apply And.intro|(apply Yh;clear Yh Y)));all_goals first|apply Hold.mk|omega|with_reducible assumption|skip))
  (refine awp_if fun T F hT hF => ?_; simp [go_sem]; refine hT ?_; clear hT hF T F)
  (refine awp_sr fun Y Yh => ?_; simp [go_sem]; ((repeat' (first|(refine ag_x ?_;simp [go_sem])|intro _|apply And.intro|(apply Yh;clear Yh Y)));all_goals first|apply Hold.mk|omega|with_reducible assumption|skip))
  (refine awp_ret ?_; simp [go_sem, endV])
 | some q =>
  obtain ⟨L, a, b⟩ := q
  rw [hr] at hD
  simp only [rrR] at hD
  by_cases hab : 0 < a ∧ 0 < b
  ·have hb : (decide (a = 0) || decide (b = 0)) = false := by
    rw [Bool.or_eq_false_iff, decide_eq_false_iff_not, decide_eq_false_iff_not]; omega
   rw [hb] at hD
   simp only [endV, if_pos hab]
   (refine awp_sr fun Y Yh => ?_; simp [go_sem]; ((repeat' (first|(refine ag_x ?_;simp [go_sem])|intro _|apply And.intro|(apply Yh;clear Yh Y)));all_goals first|apply Hold.mk|omega|with_reducible assumption|skip))
   refine awp_seq_k fun K1 hK1 => ?_
   (refine awp_sr fun Y Yh => ?_; simp [go_sem]; ((repeat' (first|(refine ag_x ?_;simp [go_sem])|intro _|apply And.intro|(apply Yh;clear Yh Y)));all_goals first|apply Hold.mk|omega|with_reducible assumption|skip))
   ((try refine CallT.toA ?_); refine callT_m (.inl ⟨rfl,rfl⟩) (by simp [go_sem]) ?_; intro args ha; simp [go_sem] at ha; subst ha; refine ⟨_, hD, ?_⟩; rintro _ rfl; simp [go_sem]; ((repeat' (first|(refine ag_x ?_;simp [go_sem])|intro _|apply And.intro|(apply Yh;clear Yh Y)));all_goals first|apply Hold.mk|omega|with_reducible assumption|skip))
   (refine awp_sr fun Y Yh => ?_; simp [go_sem]; ((repeat' (first|(refine ag_x ?_;simp [go_sem])|intro _|apply And.intro|(apply Yh;clear Yh Y)));all_goals first|apply Hold.mk|omega|with_reducible assumption|skip))
   (refine awp_if fun T F hT hF => ?_; simp [go_sem]; refine hT ?_; clear hT hF T F)
   (refine awp_sr fun Y Yh => ?_; simp [go_sem]; ((repeat' (first|(refine ag_x ?_;simp [go_sem])|intro _|apply And.intro|(apply Yh;clear Yh Y)));all_goals first|apply Hold.mk|omega|with_reducible assumption|skip))
   (refine awp_ret ?_; simp [go_sem])
  ·have hb : (decide (a = 0) || decide (b = 0)) = true := by
    rw [Bool.or_eq_true, decide_eq_true_eq, decide_eq_true_eq]; omega
   rw [hb] at hD
   simp only [endV, if_neg hab]
   (refine awp_sr fun Y Yh => ?_; simp [go_sem]; ((repeat' (first|(refine ag_x ?_;simp [go_sem])|intro _|apply And.intro|(apply Yh;clear Yh Y)));all_goals first|apply Hold.mk|omega|with_reducible assumption|skip))
   refine awp_seq_k fun K1 hK1 => ?_
   (refine awp_sr fun Y Yh => ?_; simp [go_sem]; ((repeat' (first|(refine ag_x ?_;simp [go_sem])|intro _|apply And.intro|(apply Yh;clear Yh Y)));all_goals first|apply Hold.mk|omega|with_reducible assumption|skip))
   ((try refine CallT.toA ?_); refine callT_m (.inl ⟨rfl,rfl⟩) (by simp [go_sem]) ?_; intro args ha; simp [go_sem] at ha; subst ha; refine ⟨_, hD, ?_⟩; rintro _ rfl; simp [go_sem]; ((repeat' (first|(refine ag_x ?_;simp [go_sem])|intro _|apply And.intro|(apply Yh;clear Yh Y)));all_goals first|apply Hold.mk|omega|with_reducible assumption|skip))
   (refine awp_sr fun Y Yh => ?_; simp [go_sem]; ((repeat' (first|(refine ag_x ?_;simp [go_sem])|intro _|apply And.intro|(apply Yh;clear Yh Y)));all_goals first|apply Hold.mk|omega|with_reducible assumption|skip))
   (refine awp_if fun T F hT hF => ?_; simp [go_sem]; refine hF ?_; clear hT hF T F)
   refine awp_skip ?_
   refine hK1 _ ?_; clear hK1
   (refine awp_sr fun Y Yh => ?_; simp [go_sem]; ((repeat' (first|(refine ag_x ?_;simp [go_sem])|intro _|apply And.intro|(apply Yh;clear Yh Y)));all_goals first|apply Hold.mk|omega|with_reducible assumption|skip))
   (refine awp_ret ?_; simp [go_sem])
end Go.Proofs.YtelhdhofnohkcaaGreatDoor
