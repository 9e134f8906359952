/- Part of a proof: see the last text. -/
import Derived.Test.YtkgmecjaejaehaaGreatDoorG10
import Derived.Test.YtkgmecjaejaehaaGreatDoorG08
import Derived.Lib.ValidLaws
import Derived.Lib.TrimUEq
import Derived.Lib.TrimAscii
import Derived.Lib.MapLaws
import Derived.Lib.TrimU
set_option linter.unusedVariables false
set_option linter.unusedSimpArgs false
namespace Go.Proofs.YtkgmecjaejaehaaGreatDoor
open Go.Eng Go.Js
set_option maxRecDepth 20000
attribute [local irreducible] AG CallA CallT AWp PCall ACall XCall AgC
abbrev sv0 : JV := .mk 6 [] [[97]] [.mk 5 [] [] [.mk 3 [49] [] [], .mk 3 [50] [] []]]
theorem sane_p1 : parO [123, 34, 97, 34, 58, 91, 49, 44, 50, 93, 125] = (sv0, 0, 0) := by kernel_rfl
theorem sane_p2 : parO [91, 49, 44, 93] = (.mk 0 [] [] [], 3, 4) := by kernel_rfl
theorem sane_ok : (vldV sv0 2000 1).1 = true := by
 have h1 : isNumV [49] = true := by decide +kernel
 have h2 : isNumV [50] = true := by decide +kernel
 have h3 : Lib.validD [97] = true := by decide +kernel
 have h4 : (Lib.compact [([97] : List UInt8)]).length = 1 := by decide +kernel
 simp [vldV, vldL, okNames, leafV, h1, h2, h3, h4]
theorem sane_tk : toksV [47, 97, 47, 49] = some [[97], [49]] := by decide +kernel
theorem sane_at : atV sv0 [47, 97, 47, 49] = (.mk 3 [50] [] [], 0) := by
 have e1 : idxT sv0 [97] = 0 := by decide +kernel
 have e2 : idxT (.mk 5 [] [] [.mk 3 [49] [] [], .mk 3 [50] [] []]) [49] = 1 := by decide +kernel
 unfold atV
 rw [sane_ok, sane_tk]
 simp [goV, e1, e2, JV.items]
set_option maxHeartbeats 16000000 in
theorem sane_spec : PCall Tryz.prog 13 [] fun r => r = dB true := by
 refine pcall_of Tryz.func13 rfl rfl Tryz.ntmps13 (rs := [.tmp 0]) (tys := [4]) rfl rfl (by simp) ?_
 have H1 := parse_spec [123, 34, 97, 34, 58, 91, 49, 44, 50, 93, 125] (by simp)
 have H2 := parse_spec [91, 49, 44, 93] (by simp)
 have H3 := at_spec sv0 [47, 97, 47, 49] (by simp) (by decide +kernel) (by decide +kernel)
 rw [sane_p1] at H1
 rw [sane_p2] at H2
 rw [sane_at] at H3
 simp only [dJ_mk, List.map_cons, List.map_nil, cJ_mk] at H1 H2 H3
 (refine awp_sr fun Y Yh => ?_; simp [go_sem]; ((repeat' (first|(refine ag_x ?_;simp [go_sem])|intro _|apply And.intro|(apply Yh;clear Yh Y)));all_goals first|apply Hold.mk|omega|with_reducible assumption|skip))
 (refine awp_sr fun Y Yh => ?_; simp [go_sem]; ((repeat' (first|(refine ag_x ?_;simp [go_sem])|intro _|apply And.intro|(apply Yh;clear Yh Y)));all_goals first|apply Hold.mk|omega|with_reducible assumption|skip))
 ((try refine CallT.toA ?_); refine callT_m (by first|exact .inl ⟨rfl,rfl⟩|exact .inr rfl) (by simp [go_sem]) ?_; intro args ha; simp [go_sem] at ha; subst ha; refine ⟨_, H1, ?_⟩; rintro _ rfl; simp [go_sem]; ((repeat' (first|(refine ag_x ?_;simp [go_sem])|intro _|apply And.intro|(apply Yh;clear Yh Y)));all_goals first|apply Hold.mk|omega|with_reducible assumption|skip))
 (refine awp_sr fun Y Yh => ?_; simp [go_sem]; ((repeat' (first|(refine ag_x ?_;simp [go_sem])|intro _|apply And.intro|(apply Yh;clear Yh Y)));all_goals first|apply Hold.mk|omega|with_reducible assumption|skip))
 ((try refine CallT.toA ?_); refine callT_m (by first|exact .inl ⟨rfl,rfl⟩|exact .inr rfl) (by simp [go_sem]) ?_; intro args ha; simp [go_sem] at ha; subst ha; refine ⟨_, H3, ?_⟩; rintro _ rfl; simp [go_sem]; ((repeat' (first|(refine ag_x ?_;simp [go_sem])|intro _|apply And.intro|(apply Yh;clear Yh Y)));all_goals first|apply Hold.mk|omega|with_reducible assumption|skip))
 (refine awp_sr fun Y Yh => ?_; simp [go_sem]; ((repeat' (first|(refine ag_x ?_;simp [go_sem])|intro _|apply And.intro|(apply Yh;clear Yh Y)));all_goals first|apply Hold.mk|omega|with_reducible assumption|skip))
 ((try refine CallT.toA ?_); refine callT_m (by first|exact .inl ⟨rfl,rfl⟩|exact .inr rfl) (by simp [go_sem]) ?_; intro args ha; simp [go_sem] at ha; subst ha; refine ⟨_, H2, ?_⟩; rintro _ rfl; simp [go_sem]; ((repeat' (first|(refine ag_x ?_;simp [go_sem])|intro _|apply And.intro|(apply Yh;clear Yh Y)));all_goals first|apply Hold.mk|omega|with_reducible assumption|skip))
 (refine awp_sr fun Y Yh => ?_; simp [go_sem]; ((repeat' (first|(refine ag_x ?_;simp [go_sem])|intro _|apply And.intro|(apply Yh;clear Yh Y)));all_goals first|apply Hold.mk|omega|with_reducible assumption|skip))
 (refine awp_ret ?_; simp [go_sem])
end Go.Proofs.YtkgmecjaejaehaaGreatDoor
namespace Go.Js
/-! whether two values are the same; where one of them is turned -/
mutual
def eqJ : JV → JV → Bool
 | .mk k t ns xs, .mk k' t' ns' xs' => decide (k = k') && decide (t = t') && decide (ns = ns') && eqJs xs xs'
def eqJs : List JV → List JV → Bool
 | [], [] => true
 | x :: xs, y :: ys => eqJ x y && eqJs xs ys
 | _, _ => false
end
/-! values that numbers make -/
/-! values turned, and values in order -/
mutual
def turnV : JV → JV
 | .mk k t ns xs => if k = 6 then .mk k t ns.reverse (turnL xs).reverse else .mk k t [] (turnL xs)
def turnL : List JV → List JV
 | [] => []
 | x :: xs => turnV x :: turnL xs
end
def srtV (ns : List (List UInt8)) : List (List UInt8) := ns.mergeSort fun x y => decide (x ≤ y)
mutual
def canonV : JV → JV
 | .mk k t ns xs => if k = 6 then .mk k t (srtV ns) ((srtV ns).map fun n => (canonL xs).getD (ixV ns n).toNat default) else .mk k t [] (canonL xs)
def canonL : List JV → List JV
 | [] => []
 | x :: xs => canonV x :: canonL xs
end
/-! a text, quoted -/
def hexC (n : Nat) : UInt8 := [48, 49, 50, 51, 52, 53, 54, 55, 56, 57, 97, 98, 99, 100, 101, 102].getD n 0
def qB (c : UInt8) : List UInt8 :=
 if c = 34 then [92, 34] else if c = 92 then [92, 92] else if c = 8 then [92, 98] else if c = 12 then [92, 102] else if c = 10 then [92, 110]
 else if c = 13 then [92, 114] else if c = 9 then [92, 116] else if c < 32 then [92, 117, 48, 48, hexC (c.toNat / 16), hexC (c.toNat % 16)] else [c]
def qBs (s : List UInt8) : List UInt8 := s.flatMap qB
def quoteV (s : List UInt8) : List UInt8 := 34 :: qBs s ++ [34]
theorem qB_len (c : UInt8) : (qB c).length ≤ 6 := by
 unfold qB
 repeat' split
 all_goals simp
theorem qBs_nil : qBs [] = [] := rfl
theorem qBs_len : ∀ s : List UInt8, (qBs s).length ≤ 6 * s.length
 | [] => by simp [qBs]
 | c :: s => by
  have h1 := qB_len c
  have h2 := qBs_len s
  unfold qBs at h2 ⊢
  rw [List.flatMap_cons, List.length_append, List.length_cons]
  omega
theorem qBs_take {s : List UInt8} {i : Nat} {c : UInt8} (h : s[i]? = some c) : qBs (s.take (i + 1)) = qBs (s.take i) ++ qB c := by
 unfold qBs
 rw [List.take_add_one, h, List.flatMap_append]
 simp
end Go.Js
namespace Go.Proofs.YtkgmecjaejaehaaGreatDoor
open Go.Eng Go.Js
set_option maxRecDepth 20000
attribute [local irreducible] AG CallA CallT AWp PCall ACall XCall AgC
def spcE : Bs := [34, 92, 98, 102, 110, 114, 116]
theorem qB_cases (c : UInt8) : (∃ i : Nat, i < 7 ∧ idxV [34, 92, 8, 12, 10, 13, 9] c = i ∧ qB c = 92 :: (spcE.drop i).take 1) ∨ (idxV [34, 92, 8, 12, 10, 13, 9] c = -1 ∧ (c < 32 → qB c = [92, 117, 48, 48, hexC (c.toNat / 16), hexC (c.toNat % 16)]) ∧ (¬ c < 32 → qB c = [c])) := by
 by_cases h1 : c = 34
 ·subst h1; exact .inl ⟨0, by decide, by decide +kernel, by decide +kernel⟩
 by_cases h2 : c = 92
 ·subst h2; exact .inl ⟨1, by decide, by decide +kernel, by decide +kernel⟩
 by_cases h3 : c = 8
 ·subst h3; exact .inl ⟨2, by decide, by decide +kernel, by decide +kernel⟩
 by_cases h4 : c = 12
 ·subst h4; exact .inl ⟨3, by decide, by decide +kernel, by decide +kernel⟩
 by_cases h5 : c = 10
 ·subst h5; exact .inl ⟨4, by decide, by decide +kernel, by decide +kernel⟩
 by_cases h6 : c = 13
 ·subst h6; exact .inl ⟨5, by decide, by decide +kernel, by decide +kernel⟩
 by_cases h7 : c = 9
 ·subst h7; exact .inl ⟨6, by decide, by decide +kernel, by decide +kernel⟩
 refine .inr ⟨?_, fun h => ?_, fun h => ?_⟩
 ·have e : ([34, 92, 8, 12, 10, 13, 9] : Bs).any (· == c) = false := by
   simp only [List.any_cons, List.any_nil, Bool.or_false, Bool.or_eq_false_iff, beq_eq_false_iff_ne]
   exact ⟨Ne.symm h1, Ne.symm h2, Ne.symm h3, Ne.symm h4, Ne.symm h5, Ne.symm h6, Ne.symm h7⟩
  unfold idxV
  rw [if_neg]
  rw [List.findIdx_lt_length]
  rintro ⟨x, hx, hp⟩
  rw [List.any_eq_false] at e
  exact absurd hp (e x hx)
 ·simp [qB, h1, h2, h3, h4, h5, h6, h7, h]
 ·simp [qB, h1, h2, h3, h4, h5, h6, h7, h]
theorem ba_app2 (a b : Bs) : (ByteArray.mk a.toArray) ++ (ByteArray.mk b.toArray) = ⟨(a ++ b).toArray⟩ := by
 apply ByteArray.ext; simp
theorem spc_cut (j : Nat) : (ByteArray.mk #[34, 92, 98, 102, 110, 114, 116]).extract j (j + 1) = ⟨((spcE.drop j).take 1).toArray⟩ := by
 rw [show (ByteArray.mk #[34, 92, 98, 102, 110, 114, 116]) = ⟨spcE.toArray⟩ from rfl, ba_cut, Nat.add_sub_cancel_left]
theorem spc_esc (x : Bs) : (ByteArray.mk #[92]) ++ (ByteArray.mk x.toArray) = ⟨(92 :: x).toArray⟩ := ba_app2 [92] x
theorem hex_at {n : Nat} (h : n < 16) : ([48, 49, 50, 51, 52, 53, 54, 55, 56, 57, 97, 98, 99, 100, 101, 102] : Bs)[n]? = some (hexC n) ∧ ((hexC n).toNat : Int) < 128 := by
 have e : ∀ n < 16, (([48, 49, 50, 51, 52, 53, 54, 55, 56, 57, 97, 98, 99, 100, 101, 102] : Bs)[n]? = some (hexC n) ∧ ((hexC n).toNat : Int) < 128) := by decide +kernel
 exact e n h
theorem hex_app (b d : UInt8) : (ByteArray.mk #[92, 117, 48, 48]) ++ (ByteArray.mk #[b]) ++ (ByteArray.mk #[d]) = ⟨[92, 117, 48, 48, b, d].toArray⟩ := by
 rw [show (ByteArray.mk #[92, 117, 48, 48]) = ⟨([92, 117, 48, 48] : Bs).toArray⟩ from rfl, show (ByteArray.mk #[b]) = ⟨([b] : Bs).toArray⟩ from rfl, show (ByteArray.mk #[d]) = ⟨([d] : Bs).toArray⟩ from rfl, ba_app2, ba_app2]
 rfl
set_option maxHeartbeats 8000000 in
theorem quote_spec (s : Bs) (hl : s.length ≤ 1000000) : PCall Tryz.prog 45 [dS s] fun r => r = dS (quoteV s) := by
 refine pcall_of Tryz.func45 rfl rfl Tryz.ntmps45 (rs := [.tmp 2]) (tys := [9]) rfl rfl (by simp) ?_
 (refine awp_sr fun Y Yh => ?_; simp [go_sem]; ((repeat' (first|(refine ag_x ?_;simp [go_sem])|intro _|apply And.intro|(apply Yh;clear Yh Y)));all_goals first|apply Hold.mk|omega|with_reducible assumption|skip))
 refine awp_bld 132 5 900004 900005 (by decide) (by decide) (by kernel_rfl) fun gb gr => ?_
 (refine awp_sr fun Y Yh => ?_; simp [go_sem]; ((repeat' (first|(refine ag_x ?_;simp [go_sem])|intro _|apply And.intro|(apply Yh;clear Yh Y)));all_goals first|apply Hold.mk|omega|with_reducible assumption|skip))
 (refine callA_l [900004, 900005] (by first|exact .inl ⟨rfl,rfl⟩|exact .inr rfl) (by simp [go_sem]) ?_; intro args ha; simp [go_sem] at ha; subst ha; refine ⟨_, _, (wb_spec 900004 900005 gb gr [] 34 (by omega) (by omega) (by omega) (by simp)), (by simp [go_sem]), ?_⟩; rintro ps r hps ⟨gr2, rfl, rfl⟩; simp [go_sem]; ((repeat' (first|(refine ag_x ?_;simp [go_sem])|intro _|apply And.intro|(apply Yh;clear Yh Y)));all_goals first|apply Hold.mk|omega|with_reducible assumption|skip))
 refine awp_seq_k fun K1 hK1 => ?_
 (refine awp_sr fun Y Yh => ?_; simp [go_sem]; ((repeat' (first|(refine ag_x ?_;simp [go_sem])|intro _|apply And.intro|(apply Yh;clear Yh Y)));all_goals first|apply Hold.mk|omega|with_reducible assumption|skip))
 refine awp_block ?_
 refine awp_loop (σ := Nat × Nat) (fun x => ⟨[(3, .ptr 900004 gb 0), (9, .sl 1 (s.map fun c => [dU c])), (10, dI s.length), (11, dI x.1)], [(900004, (gb, .bld 132 900005 x.2)), (900005, (x.2, .brow 5 (34 :: qBs (s.take x.1))))]⟩) (fun x => x.1 ≤ s.length) (fun x => s.length - x.1) (0, gr2) ?_ (by simp) ?_
 ·(refine cov_of ?_ ?_ <;> simp [go_sem, qBs_nil])
  all_goals rfl
 rintro ⟨i, gr⟩ hi
 simp only at hi ⊢
 (refine awp_sr fun Y Yh => ?_; simp [go_sem]; ((repeat' (first|(refine ag_x ?_;simp [go_sem])|intro _|apply And.intro|(apply Yh;clear Yh Y)));all_goals first|apply Hold.mk|omega|with_reducible assumption|skip))
 refine awp_seq_k fun K2 hK2 => ?_
 have hql := qBs_len (s.take i)
 have hti : (s.take i).length ≤ 1000000 := by simp; omega
 by_cases h : i < s.length
 ·have hg : s[i]? = some s[i] := List.getElem?_eq_getElem h
  have hst := qBs_take hg
  have hcs := qB_cases s[i]
  have hq6 := qB_len s[i]
  (refine awp_if fun T F hT hF => ?_; simp [go_sem, h]; refine hT ?_; clear hT hF T F)
  refine awp_skip ?_
  refine hK2 _ ?_; clear hK2
  refine awp_seq_k fun K4 hK4 => ?_
  have tl4 : ∀ gr' S', Cov S' ⟨[(3, .ptr 900004 gb 0), (9, .sl 1 (s.map fun c => [dU c])), (10, dI s.length), (11, dI i)], [(900004, (gb, .bld 132 900005 gr')), (900005, (gr', .brow 5 (34 :: qBs (s.take (i + 1)))))]⟩ → K4 S' := fun gr' S' hS => by
   refine hK4 _ ?_; clear hK4
   refine awp_cov hS ?_; clear hS
   (refine awp_r fun Y Yh => ?_; simp [go_sem]; ((repeat' (first|(refine ag_x ?_;simp [go_sem])|intro _|apply And.intro|(apply Yh;clear Yh Y)));all_goals first|apply Hold.mk|omega|with_reducible assumption|skip))
   refine ⟨(i + 1, gr'), ?_, by simp only; omega, by simp only; omega⟩
   (refine cov_of ?_ ?_ <;> simp [go_sem])
  clear hK4
  rw [hst] at tl4
  generalize qBs (s.take i) = R at *
  generalize hc : s[i] = c at *
  have HI := idxB_spec [34, 92, 8, 12, 10, 13, 9] c
  refine awp_block ?_
  (refine awp_sr fun Y Yh => ?_; simp [go_sem, hg, h, hc]; ((repeat' (first|(refine ag_x ?_;simp [go_sem, hg, h, hc])|intro _|apply And.intro|(apply Yh;clear Yh Y)));all_goals first|apply Hold.mk|omega|with_reducible assumption|skip))
  (refine awp_sr fun Y Yh => ?_; simp [go_sem]; ((repeat' (first|(refine ag_x ?_;simp [go_sem])|intro _|apply And.intro|(apply Yh;clear Yh Y)));all_goals first|apply Hold.mk|omega|with_reducible assumption|skip))
  ((try refine CallT.toA ?_); refine callT_m (by first|exact .inl ⟨rfl,rfl⟩|exact .inr rfl) (by simp [go_sem]) ?_; intro args ha; simp [go_sem] at ha; subst ha; refine ⟨_, HI, ?_⟩; rintro _ rfl; simp [go_sem]; ((repeat' (first|(refine ag_x ?_;simp [go_sem])|intro _|apply And.intro|(apply Yh;clear Yh Y)));all_goals first|apply Hold.mk|omega|with_reducible assumption|skip))
  refine awp_block ?_
  (refine awp_sr fun Y Yh => ?_; simp [go_sem]; ((repeat' (first|(refine ag_x ?_;simp [go_sem])|intro _|apply And.intro|(apply Yh;clear Yh Y)));all_goals first|apply Hold.mk|omega|with_reducible assumption|skip))
  rcases hcs with ⟨j, hj, hij, hqj⟩ | ⟨hij, hlo, hhi⟩
  ·rw [hij] at *
   have hj2 : ((spcE.drop j).take 1).length ≤ 1 := by simp; omega
   (refine awp_if fun T F hT hF => ?_; simp [go_sem]; refine hT ?_; clear hT hF T F)
   rw [hqj] at tl4
   have HW := fun gr => ws_spec 900004 900005 gb gr (34 :: R) (92 :: (spcE.drop j).take 1) (by omega) (by omega) (by omega) (by simp; omega)
   have hj7 : (j : Int) + 1 ≤ 7 := by omega
   have hes := spc_esc ((spcE.drop j).take 1)
   have hct := spc_cut j
   generalize (spcE.drop j).take 1 = z at *
   (refine awp_r fun Y Yh => ?_; simp [go_sem, hct, hes, hj7]; ((repeat' (first|(refine ag_x ?_;simp [go_sem, hct, hes, hj7])|intro _|apply And.intro|(apply Yh;clear Yh Y)));all_goals first|apply Hold.mk|omega|with_reducible assumption|skip))
   (refine callA_l [900004, 900005] (by first|exact .inl ⟨rfl,rfl⟩|exact .inr rfl) (by simp [go_sem]) ?_; intro args ha; simp [go_sem] at ha; subst ha; refine ⟨_, _, (HW gr), (by simp [go_sem]), ?_⟩; rintro ps r hps ⟨gr3, rfl, rfl⟩; simp [go_sem]; ((repeat' (first|(refine ag_x ?_;simp [go_sem])|intro _|apply And.intro|(apply Yh;clear Yh Y)));all_goals first|apply Hold.mk|omega|with_reducible assumption|skip))
   refine tl4 gr3 _ ?_
   (refine cov_of ?_ ?_ <;> simp [go_sem])
  ·rw [hij] at *
   (refine awp_if fun T F hT hF => ?_; simp [go_sem]; refine hF ?_; clear hT hF T F)
   (refine awp_sr fun Y Yh => ?_; simp [go_sem]; ((repeat' (first|(refine ag_x ?_;simp [go_sem])|intro _|apply And.intro|(apply Yh;clear Yh Y)));all_goals first|apply Hold.mk|omega|with_reducible assumption|skip))
   have hcI : (c.toNat : Int) < 32 ↔ c < 32 := by
    rw [UInt8.lt_iff_toNat_lt]
    have : (32 : UInt8).toNat = 32 := rfl
    omega
   by_cases hc32 : c < 32
   ·have hc32' := hcI.2 hc32
    (refine awp_if fun T F hT hF => ?_; simp [go_sem, hc32']; refine hT ?_; clear hT hF T F)
    have hq1 := hlo hc32
    rw [hq1] at tl4
    have hcn : c.toNat < 32 := by omega
    have hw1 : IntKind.u8.wrap ((c.toNat : Int) / 16) = (c.toNat : Int) / 16 := by rw [IntKind.wrap_u8]; omega
    have hw2 : (c.toNat : Int).tmod 16 = (c.toNat : Int) % 16 := Int.tmod_eq_emod_of_nonneg (by omega)
    have hn1 : 0 ≤ (c.toNat : Int) / 16 := by omega
    have hn2 : 0 ≤ (c.toNat : Int) % 16 := by omega
    have ht1 : ((c.toNat : Int) / 16).toNat = c.toNat / 16 := by omega
    have ht2 : ((c.toNat : Int) % 16).toNat = c.toNat % 16 := by omega
    obtain ⟨hx1, hl1⟩ := hex_at (show c.toNat / 16 < 16 by omega)
    obtain ⟨hx2, hl2⟩ := hex_at (show c.toNat % 16 < 16 by omega)
    have hap := hex_app (hexC (c.toNat / 16)) (hexC (c.toNat % 16))
    have HW := fun gr => ws_spec 900004 900005 gb gr (34 :: R) [92, 117, 48, 48, hexC (c.toNat / 16), hexC (c.toNat % 16)] (by omega) (by omega) (by omega) (by simp; omega)
    generalize hexC (c.toNat / 16) = d1 at *
    generalize hexC (c.toNat % 16) = d2 at *
    ((refine awp_d (.qs [0, 1, 2, 3, 4, 5, 6, 7, 8, 9] (.one 10 (.nil))) (by kernel_rfl) ?_ ?_ ?_ ?_); (kernel_rfl); (exact (by decide +kernel)); (kernel_rfl); intro Y Yh; ((repeat' (first|(refine ag_x ?_;simp [go_sem, hw1, hw2, ht1, ht2, hn1, hn2, hx1, hx2, hl1, hl2, hap])|refine adr_nil ?_|((first|refine adr_qs fun Y Yh=>?_|refine adr_y fun Y Yh=>?_);simp [go_sem, hw1, hw2, ht1, ht2, hn1, hn2, hx1, hx2, hl1, hl2, hap])|intro _|apply And.intro|(apply Yh;clear Yh Y)));all_goals first|apply Hold.mk|omega|with_reducible assumption|skip))
    (refine callA_l [900004, 900005] (by first|exact .inl ⟨rfl,rfl⟩|exact .inr rfl) (by simp [go_sem]) ?_; intro args ha; simp [go_sem] at ha; subst ha; refine ⟨_, _, (HW gr), (by simp [go_sem]), ?_⟩; rintro ps r hps ⟨gr3, rfl, rfl⟩; simp [go_sem]; ((repeat' (first|(refine ag_x ?_;simp [go_sem])|refine adr_nil ?_|((first|refine adr_qs fun Y Yh=>?_|refine adr_y fun Y Yh=>?_);simp [go_sem])|intro _|apply And.intro|(apply Yh;clear Yh Y)));all_goals first|apply Hold.mk|omega|with_reducible assumption|skip))
    refine tl4 gr3 _ ?_
    (refine cov_of ?_ ?_ <;> simp [go_sem])
   ·have hc32' : ¬ (c.toNat : Int) < 32 := fun q => hc32 (hcI.1 q)
    have hq1 := hhi hc32
    rw [hq1] at tl4
    (refine awp_if fun T F hT hF => ?_; simp [go_sem, hc32']; refine hF ?_; clear hT hF T F)
    (refine awp_r fun Y Yh => ?_; simp [go_sem]; ((repeat' (first|(refine ag_x ?_;simp [go_sem])|intro _|apply And.intro|(apply Yh;clear Yh Y)));all_goals first|apply Hold.mk|omega|with_reducible assumption|skip))
    (refine callA_l [900004, 900005] (by first|exact .inl ⟨rfl,rfl⟩|exact .inr rfl) (by simp [go_sem]) ?_; intro args ha; simp [go_sem] at ha; subst ha; refine ⟨_, _, (wb_spec 900004 900005 gb gr (34 :: R) c (by omega) (by omega) (by omega) (by simp; omega)), (by simp [go_sem]), ?_⟩; rintro ps r hps ⟨gr3, rfl, rfl⟩; simp [go_sem]; ((repeat' (first|(refine ag_x ?_;simp [go_sem])|intro _|apply And.intro|(apply Yh;clear Yh Y)));all_goals first|apply Hold.mk|omega|with_reducible assumption|skip))
    refine tl4 gr3 _ ?_
    (refine cov_of ?_ ?_ <;> simp [go_sem])
 ·(refine awp_if fun T F hT hF => ?_; simp [go_sem, h]; refine hF ?_; clear hT hF T F)
  refine awp_exit ?_
  simp only [go_sem]
  refine hK1 _ ?_; clear hK1
  obtain rfl : i = s.length := by omega
  have hq2 := qBs_len s
  have hap := ba_app2 (34 :: qBs s) [34]
  have hqv : 34 :: qBs s ++ [34] = quoteV s := rfl
  rw [hqv] at hap
  rw [List.take_length]
  generalize hX : (34 :: qBs s : Bs) = X at *
  have hXl : X.length ≤ 6000001 := by rw [← hX, List.length_cons]; omega
  generalize quoteV s = Y at *
  (refine awp_sr fun Y Yh => ?_; simp [go_sem]; ((repeat' (first|(refine ag_x ?_;simp [go_sem])|intro _|apply And.intro|(apply Yh;clear Yh Y)));all_goals first|apply Hold.mk|omega|with_reducible assumption|skip))
  (refine callA_l [900004, 900005] (by first|exact .inl ⟨rfl,rfl⟩|exact .inr rfl) (by simp [go_sem]) ?_; intro args ha; simp [go_sem] at ha; subst ha; refine ⟨_, _, (strA_spec 900004 900005 gb gr X (by omega) (by omega) (by omega)), (by simp [go_sem, hap]), ?_⟩; rintro ps r hps ⟨gr3, rfl, rfl⟩; simp [go_sem, hap]; ((repeat' (first|(refine ag_x ?_;simp [go_sem, hap])|intro _|apply And.intro|(apply Yh;clear Yh Y)));all_goals first|apply Hold.mk|omega|with_reducible assumption|skip))
  (refine awp_ret ?_; simp [go_sem])
end Go.Proofs.YtkgmecjaejaehaaGreatDoor
namespace Go.Js
open Go.Lib
/-! a quoted text is read back -/
theorem decN_ext {n n' b0 b1 b2 b3 c1 c2 c3 r w : Nat} (h : decodeN n b0 b1 b2 b3 = (r, w)) (hg : ¬ (r = 65533 ∧ w = 1)) (hn : w ≤ n') (h1 : 1 < w → c1 = b1) (h2 : 2 < w → c2 = b2) (h3 : 3 < w → c3 = b3) : decodeN n' b0 c1 c2 c3 = (r, w) := by
 unfold decodeN at h ⊢
 split at h
 ·rename_i q
  rw [if_pos q]; exact h
 ·rename_i q0
  rw [if_neg q0]
  split at h
  ·rename_i q1
   split at h
   ·rename_i q2
    cases h
    have e1 := h1 (by decide)
    subst e1
    rw [if_pos ⟨q1.1, by omega, q1.2.2⟩, if_pos q2]
   ·cases h; exact absurd ⟨rfl, rfl⟩ hg
  ·split at h
   ·rename_i q1 q3
    split at h
    ·rename_i q2
     cases h
     have e1 := h1 (by decide)
     have e2 := h2 (by decide)
     subst e1 e2
     rw [if_neg (by rintro ⟨t, _⟩; omega), if_pos ⟨q3.1, ⟨by omega, q3.2.1.2⟩, by omega, q3.2.2.2⟩, if_pos q2]
    ·cases h; exact absurd ⟨rfl, rfl⟩ hg
   ·split at h
    ·rename_i q1 q3 q4
     split at h
     ·rename_i q2
      cases h
      have e1 := h1 (by decide)
      have e2 := h2 (by decide)
      have e3 := h3 (by decide)
      subst e1 e2 e3
      rw [if_neg (by rintro ⟨t, _⟩; omega), if_neg (by rintro ⟨t, _⟩; omega), if_pos ⟨q4.1, ⟨by omega, q4.2.1.2⟩, ⟨by omega, q4.2.2.1.2⟩, by omega, q4.2.2.2.2⟩, if_pos q2]
     ·cases h; exact absurd ⟨rfl, rfl⟩ hg
    ·cases h; exact absurd ⟨rfl, rfl⟩ hg
theorem decN_high {n b0 b1 b2 b3 r w : Nat} (h : decodeN n b0 b1 b2 b3 = (r, w)) (hg : ¬ (r = 65533 ∧ w = 1)) (h0 : 128 ≤ b0) : 1 < w ∧ w ≤ n ∧ w ≤ 4 ∧ 128 ≤ b1 ∧ (2 < w → 128 ≤ b2) ∧ (3 < w → 128 ≤ b3) := by
 unfold decodeN at h
 rw [if_neg (by omega)] at h
 repeat' split at h
 all_goals first
  | (cases h; exact absurd ⟨rfl, rfl⟩ hg)
  | (cases h; refine ⟨by omega, by omega, by omega, by omega, fun _ => by omega, fun _ => by omega⟩)
theorem qB_high {c : UInt8} (h : 128 ≤ c.toNat) : qB c = [c] := by
 have e : ∀ n < 256, 128 ≤ n → qB (UInt8.ofNat n) = [UInt8.ofNat n] := by decide +kernel
 have := e c.toNat c.toNat_lt h
 simpa using this
theorem qBs_app (a b : List UInt8) : qBs (a ++ b) = qBs a ++ qBs b := by simp [qBs]
theorem qBs_cons (c : UInt8) (s : List UInt8) : qBs (c :: s) = qB c ++ qBs s := by simp [qBs]
theorem qBs_high : ∀ s : List UInt8, (∀ c ∈ s, 128 ≤ c.toNat) → qBs s = s
 | [], _ => rfl
 | c :: s, h => by
  rw [qBs_cons, qB_high (h c (List.mem_cons_self ..)), qBs_high s fun d hd => h d (List.mem_cons_of_mem _ hd)]; rfl
theorem drop_get {q : List UInt8} {a i : Nat} {l : List UInt8} (h : q.drop a = l) : q[a + i]? = l[i]? := by
 rw [← h, List.getElem?_drop]
theorem drop_get0 {q : List UInt8} {a : Nat} {l : List UInt8} (h : q.drop a = l) : q[a]? = l[0]? := by
 rw [← h, List.getElem?_drop]; simp
theorem drop_more {q : List UInt8} {a k : Nat} {x y : List UInt8} (h : q.drop a = x ++ y) (hk : x.length = k) : q.drop (a + k) = y := by
 rw [← List.drop_drop, h, ← hk, List.drop_left]
theorem back_one {q : List UInt8} {a f : Nat} {acc rest : List UInt8} {e c : UInt8} (h : q.drop a = [92, e] ++ rest) (he : e ≠ 117) (hc : escC e = some c) : strG q (f + 1) a acc = strG q f (a + 2) (acc ++ [c]) := by
 have h0 := drop_get0 h
 have h1 := drop_get (i := 1) h
 simp only [List.cons_append, List.nil_append, List.getElem?_cons_zero, List.getElem?_cons_succ] at h0 h1
 rw [strG, h0]
 simp only
 rw [if_neg (by decide), if_pos trivial]
 unfold escV
 rw [h1]
 simp only
 rw [if_neg he, hc]
theorem hexD_hexC : ∀ n < 16, hexD (hexC n) = some n := by decide +kernel
theorem utf_low {n : Nat} (h : n < 128) : utfB n = [UInt8.ofNat n] := by
 have e : ∀ n < 128, utfB n = [UInt8.ofNat n] := by decide +kernel
 exact e n h
theorem back_hex {q : List UInt8} {a f : Nat} {acc rest : List UInt8} {c : UInt8} (hc : c < 32) (h : q.drop a = [92, 117, 48, 48, hexC (c.toNat / 16), hexC (c.toNat % 16)] ++ rest) : strG q (f + 1) a acc = strG q f (a + 6) (acc ++ [c]) := by
 have hcn : c.toNat < 32 := by rw [UInt8.lt_iff_toNat_lt] at hc; exact hc
 have h0 := drop_get0 h
 have h1 := drop_get (i := 1) h
 have h2 := drop_get (i := 2) h
 have h3 := drop_get (i := 3) h
 have h4 := drop_get (i := 4) h
 have h5 := drop_get (i := 5) h
 simp only [List.cons_append, List.nil_append, List.getElem?_cons_zero, List.getElem?_cons_succ] at h0 h1 h2 h3 h4 h5
 have hd0 : hexD 48 = some 0 := by decide
 have hx : hexV q a a = .ok c.toNat := by
  unfold hexV
  simp only [hexG]
  rw [h2]
  simp only [hd0]
  rw [h3]
  simp only [hd0]
  rw [h4]
  simp only [hexD_hexC (c.toNat / 16) (by omega)]
  rw [h5]
  simp only [hexD_hexC (c.toNat % 16) (by omega)]
  congr 1
  omega
 rw [strG, h0]
 simp only
 rw [if_neg (by decide), if_pos trivial]
 unfold escV
 rw [h1]
 simp only [if_true]
 unfold wideV
 rw [hx]
 simp only
 rw [if_pos (by omega)]
 simp only
 rw [utf_low (by omega)]
 simp
theorem back_same {q : List UInt8} {a f : Nat} {acc rest : List UInt8} {c : UInt8} (h32 : ¬ c < 32) (h34 : c ≠ 34) (h92 : c ≠ 92) (h128 : c.toNat < 128) (h : q.drop a = c :: rest) : strG q (f + 1) a acc = strG q f (a + 1) (acc ++ [c]) := by
 have h0 := drop_get0 h
 simp only [List.getElem?_cons_zero] at h0
 rw [strG, h0]
 simp only
 rw [if_neg h34, if_neg h92, if_neg h32, h, decodeL_ascii c rest h128]
 simp only
 rw [if_neg (by omega)]
 simp
theorem back_low {c : UInt8} (h : c.toNat < 128) {q : List UInt8} {a f : Nat} {acc rest : List UInt8} (hq : q.drop a = qB c ++ rest) : strG q (f + 1) a acc = strG q f (a + (qB c).length) (acc ++ [c]) := by
 by_cases h1 : c = 34
 ·subst h1; exact back_one hq (by decide) (by decide)
 by_cases h2 : c = 92
 ·subst h2; exact back_one hq (by decide) (by decide)
 by_cases h3 : c = 8
 ·subst h3; exact back_one hq (by decide) (by decide)
 by_cases h4 : c = 12
 ·subst h4; exact back_one hq (by decide) (by decide)
 by_cases h5 : c = 10
 ·subst h5; exact back_one hq (by decide) (by decide)
 by_cases h6 : c = 13
 ·subst h6; exact back_one hq (by decide) (by decide)
 by_cases h7 : c = 9
 ·subst h7; exact back_one hq (by decide) (by decide)
 by_cases h8 : c < 32
 ·have e : qB c = [92, 117, 48, 48, hexC (c.toNat / 16), hexC (c.toNat % 16)] := by simp [qB, h1, h2, h3, h4, h5, h6, h7, h8]
  rw [e] at hq ⊢
  exact back_hex h8 hq
 ·have e : qB c = [c] := by simp [qB, h1, h2, h3, h4, h5, h6, h7, h8]
  rw [e] at hq ⊢
  exact back_same h8 h1 h2 h hq
theorem getD_drop_take {u v : List UInt8} {w i : Nat} (h : v.take w = u.take w) (hi : i < w) : v.getD i 0 = u.getD i 0 := by
 have h1 : (v.take w)[i]? = (u.take w)[i]? := by rw [h]
 rw [List.getElem?_take_of_lt hi, List.getElem?_take_of_lt hi] at h1
 rw [List.getD_eq_getElem?_getD, List.getD_eq_getElem?_getD, h1]
theorem back_all : ∀ (n : Nat) (u : List UInt8), u.length ≤ n → validD u = true → ∀ (q : List UInt8) (a f : Nat) (acc : List UInt8), q.drop a = qBs u ++ [34] → n < f → strG q f a acc = .ok (acc ++ u, a + (qBs u).length + 1) := by
 intro n
 induction n with
 | zero =>
  intro u hu _ q a f acc hq hf
  obtain rfl := List.eq_nil_of_length_eq_zero (Nat.le_zero.1 hu)
  obtain ⟨f, rfl⟩ : ∃ k, f = k + 1 := ⟨f - 1, by omega⟩
  have h0 := drop_get0 hq
  simp only [qBs_nil, List.nil_append, List.getElem?_cons_zero] at h0
  rw [strG, h0]
  simp [qBs_nil]
 | succ n ih =>
  intro u hu hv q a f acc hq hf
  obtain ⟨f, rfl⟩ : ∃ k, f = k + 1 := ⟨f - 1, by omega⟩
  match u, hu, hv, hq with
  | [], hu, hv, hq =>
   have h0 := drop_get0 hq
   simp only [qBs_nil, List.nil_append, List.getElem?_cons_zero] at h0
   rw [strG, h0]
   simp [qBs_nil]
  | c :: u, hu, hv, hq =>
   by_cases hc : c.toNat < 128
   ·rw [validD_cons c u hc] at hv
    rw [qBs_cons, List.append_assoc] at hq
    rw [back_low hc hq, ih u (by simp at hu; omega) hv q _ f _ (drop_more hq rfl) (by omega), qBs_cons]
    simp; omega
   ·have hst := validD_step (c :: u) (by simp)
    rw [hst] at hv
    split at hv
    ·cases hv
    ·rename_i hg
     generalize hd : decodeL (c :: u) = d at *
     obtain ⟨r, w⟩ := d
     simp only at hg hv
     rw [decodeL_N] at hd
     have hh := decN_high hd hg (by simp; omega)
     obtain ⟨w1, wl, w4, x1, x2, x3⟩ := hh
     have hhigh : ∀ b ∈ (c :: u).take w, 128 ≤ b.toNat := by
      intro b hb
      obtain ⟨i, hi, rfl⟩ := List.mem_iff_getElem.1 hb
      have hiw : i < w := by simp at hi; omega
      have hil : i < (c :: u).length := by omega
      rw [List.getElem_take]
      have : i = 0 ∨ i = 1 ∨ i = 2 ∨ i = 3 := by omega
      have ge : ((c :: u)[i]).toNat = ((c :: u).getD i 0).toNat := by rw [List.getD_eq_getElem?_getD, List.getElem?_eq_getElem hil]; rfl
      rw [ge]
      rcases this with rfl | rfl | rfl | rfl
      ·simp; omega
      ·exact x1
      ·exact x2 (by omega)
      ·exact x3 (by omega)
     have hqs : qBs (c :: u) = (c :: u).take w ++ qBs ((c :: u).drop w) := by
      conv => lhs; rw [← List.take_append_drop w (c :: u)]
      rw [qBs_app, qBs_high _ hhigh]
     rw [hqs, List.append_assoc] at hq
     have htl : ((c :: u).take w).length = w := by simp only [List.length_take]; omega
     have htk : (q.drop a).take w = (c :: u).take w := by rw [hq, List.take_append_of_le_length (by omega), List.take_of_length_le (by omega)]
     have hdq : decodeL (q.drop a) = (r, w) := by
      rw [decodeL_N, getD_drop_take htk (show 0 < w by omega)]
      refine decN_ext hd hg ?_ (fun h => by rw [getD_drop_take htk h]) (fun h => by rw [getD_drop_take htk h]) (fun h => by rw [getD_drop_take htk h])
      rw [hq, List.length_append, htl]; omega
     have h0 : q[a]? = some c := by
      have := drop_get0 hq
      rw [this]
      obtain ⟨k, rfl⟩ : ∃ k, w = k + 1 := ⟨w - 1, by omega⟩
      simp
     have hcn : ∀ k : UInt8, k.toNat < 128 → c ≠ k := fun k hk q => by subst q; omega
     rw [strG, h0]
     simp only
     rw [if_neg (hcn 34 (by decide)), if_neg (hcn 92 (by decide)), if_neg (by rw [UInt8.lt_iff_toNat_lt]; have : (32 : UInt8).toNat = 32 := rfl; omega), hdq]
     simp only
     rw [if_neg (by rintro ⟨q1, q2⟩; omega), htk]
     have hl2 : ((c :: u).drop w).length ≤ n := by simp only [List.length_drop]; simp only [List.length_cons] at hu ⊢; omega
     rw [ih _ hl2 hv q (a + w) f _ (drop_more hq htl) (by omega)]
     rw [List.append_assoc, List.take_append_drop, hqs, List.length_append, htl]
     congr 2
     omega
theorem quote_read (s : List UInt8) (hv : validD s = true) : strV (quoteV s) 0 = .ok (s, (quoteV s).length) := by
 unfold strV
 have hl : s.length ≤ (qBs s).length := by
  have : ∀ s : List UInt8, s.length ≤ (qBs s).length := by
   intro s
   induction s with
   | nil => simp [qBs]
   | cons c s ih =>
    rw [qBs_cons, List.length_append, List.length_cons]
    have : 1 ≤ (qB c).length := by
     unfold qB
     repeat' split
     all_goals simp
    omega
  exact this s
 have hql : (quoteV s).length = (qBs s).length + 2 := by simp [quoteV]
 rw [back_all s.length s (Nat.le_refl _) hv (quoteV s) (0 + 1) _ [] (by simp [quoteV]) (by omega)]
 rw [hql]
 simp; omega
theorem quote_par (s : List UInt8) (hv : validD s = true) (hl : s.length ≤ 3000) (nr : Nat → Except (Nat × Nat) (List UInt8 × Nat)) : parV (quoteV s) nr = .ok (.mk 4 s [] []) 0 1 := by
 have hql := qBs_len s
 have hlen : (quoteV s).length = (qBs s).length + 2 := by simp [quoteV]
 have hr := quote_read s hv
 have h0 : blV (quoteV s) 0 = 0 := by
  unfold blV
  have e : quoteV s = 34 :: (qBs s ++ [34]) := rfl
  rw [e]
  simp [isBl]
 have g0 : (quoteV s)[0]? = some 34 := rfl
 have hend : blV (quoteV s) (quoteV s).length = (quoteV s).length := by
  unfold blV
  rw [List.drop_length]; rfl
 generalize quoteV s = q at *
 unfold parV
 rw [if_neg (by omega)]
 obtain ⟨f, hf⟩ : ∃ f, 2 * q.length + 1 = f + 1 := ⟨_, rfl⟩
 rw [hf, valV]
 simp only
 rw [h0, g0]
 simp only
 rw [if_neg (by rintro ⟨_, h | h⟩ <;> omega), if_pos trivial, hr]
 simp only
 rw [hend, if_neg (by omega)]
end Go.Js
namespace Go.Js
/-! the document's reading of utf-8 -/
def loC (b k : Nat) : Nat := b * 64 ^ k
def hiC (b k : Nat) : Nat := b * 64 ^ k + (64 ^ k - 1)
theorem loC_step (b k : Nat) : loC b k * 64 = loC b (k + 1) := by
 unfold loC; rw [Nat.pow_succ, Nat.mul_assoc]
theorem hiC_step (b k : Nat) : hiC b k * 64 + 63 = hiC b (k + 1) := by
 have hp : 1 ≤ 64 ^ k := Nat.one_le_pow _ _ (by decide)
 unfold hiC
 rw [Nat.pow_succ, ← Nat.mul_assoc]
 generalize b * 64 ^ k = x at *
 generalize 64 ^ k = p at *
 omega
def lsC (long : Nat) : Nat := [0, 0, 128, 2048, 65536].getD long 0
def cLo (b n long : Nat) : Nat := if loC b (long - n) < lsC long then lsC long else loC b (long - n)
def cHi (b n long : Nat) : Nat := if hiC b (long - n) < 1114111 then hiC b (long - n) else 1114111
def begV (b n long : Nat) : Bool := decide (cLo b n long ≤ cHi b n long) && !(decide (55296 ≤ cLo b n long) && decide (cHi b n long ≤ 57343))
def oneL (s : List UInt8) (long : Nat) : Nat → Nat → Nat → Nat × Nat
 | 0, n, b => (n, b)
 | f + 1, n, b => if n < long ∧ n < s.length ∧ 128 ≤ (s.getD n 0).toNat ∧ (s.getD n 0).toNat < 192 ∧ begV (b * 64 + (s.getD n 0).toNat - 128) (n + 1) long = true then oneL s long f (n + 1) (b * 64 + (s.getD n 0).toNat - 128) else (n, b)
def oneH (c : Nat) : Nat × Nat := if 192 ≤ c ∧ c < 224 then (2, c - 192) else if 224 ≤ c ∧ c < 240 then (3, c - 224) else if 240 ≤ c ∧ c < 248 then (4, c - 240) else (0, 0)
def oneT (s : List UInt8) (long b : Nat) : Nat × Int :=
 if long = 0 ∨ begV b 1 long = false then (1, -1) else if (oneL s long 4 1 b).1 < long then ((oneL s long 4 1 b).1, -1) else ((oneL s long 4 1 b).1, (oneL s long 4 1 b).2)
def oneR (s : List UInt8) : Nat × Int :=
 if (s.getD 0 0).toNat < 128 then (1, (s.getD 0 0).toNat) else oneT s (oneH (s.getD 0 0).toNat).1 (oneH (s.getD 0 0).toNat).2
end Go.Js
namespace Go.Proofs.YtkgmecjaejaehaaGreatDoor
open Go.Eng Go.Js
set_option maxRecDepth 20000
attribute [local irreducible] AG CallA CallT AWp PCall ACall XCall AgC
set_option maxHeartbeats 4000000 in
theorem codes_spec (b n long : Nat) (hn : n ≤ long) (hl : long ≤ 4) (hb : b ≤ 8388608) : PCall Tryz.prog 203 [dI b, dI n, dI long] fun r => r = .tup [dI (cLo b n long), dI (cHi b n long)] := by
 refine pcall_of Tryz.func203 rfl rfl Tryz.ntmps203 (rs := [.tmp 6, .tmp 7]) (tys := [3, 3]) rfl rfl (by simp) ?_
 have hbd : ∀ j, j ≤ 4 → loC b j ≤ 140737488355328 ∧ hiC b j ≤ 140737505132544 := fun j hj => by
  have h4 : (64 : Nat) ^ j ≤ 64 ^ 4 := Nat.pow_le_pow_right (by decide) hj
  have h5 : b * 64 ^ j ≤ 8388608 * 64 ^ 4 := Nat.mul_le_mul hb h4
  have e : (64 : Nat) ^ 4 = 16777216 := by decide
  rw [e] at h4 h5
  unfold loC hiC
  omega
 (refine awp_sr fun Y Yh => ?_; simp [go_sem]; ((repeat' (first|(refine ag_x ?_;simp [go_sem])|intro _|apply And.intro|(apply Yh;clear Yh Y)));all_goals first|apply Hold.mk|omega|with_reducible assumption|skip))
 (refine awp_sr fun Y Yh => ?_; simp [go_sem]; ((repeat' (first|(refine ag_x ?_;simp [go_sem])|intro _|apply And.intro|(apply Yh;clear Yh Y)));all_goals first|apply Hold.mk|omega|with_reducible assumption|skip))
 (refine awp_sr fun Y Yh => ?_; simp [go_sem]; ((repeat' (first|(refine ag_x ?_;simp [go_sem])|intro _|apply And.intro|(apply Yh;clear Yh Y)));all_goals first|apply Hold.mk|omega|with_reducible assumption|skip))
 refine awp_seq_k fun K1 hK1 => ?_
 (refine awp_sr fun Y Yh => ?_; simp [go_sem]; ((repeat' (first|(refine ag_x ?_;simp [go_sem])|intro _|apply And.intro|(apply Yh;clear Yh Y)));all_goals first|apply Hold.mk|omega|with_reducible assumption|skip))
 refine awp_block ?_
 refine awp_loop (σ := Nat) (fun j => ⟨[(2, dI long), (8, dI (loC b j)), (9, dI (hiC b j)), (10, dI (n + j : Nat))], []⟩) (fun j => n + j ≤ long) (fun j => long - j) 0 ?_ (by simpa using hn) ?_
 ·(refine cov_of ?_ ?_ <;> simp [go_sem, loC, hiC])
 intro j hj
 refine awp_seq_k fun K2 hK2 => ?_
 (refine awp_sr fun Y Yh => ?_; simp [go_sem]; ((repeat' (first|(refine ag_x ?_;simp [go_sem])|intro _|apply And.intro|(apply Yh;clear Yh Y)));all_goals first|apply Hold.mk|omega|with_reducible assumption|skip))
 have hbj := hbd j (by omega)
 by_cases h3 : n + j < long
 ·have h3' : (n : Int) + j < long := by omega
  have s1 := loC_step b j
  have s2 := hiC_step b j
  have s1' : (loC b j : Int) * 64 = (loC b (j + 1) : Nat) := by omega
  have s2' : (hiC b j : Int) * 64 + 63 = (hiC b (j + 1) : Nat) := by omega
  have hb2 := hbd (j + 1) (by omega)
  (refine awp_if fun T F hT hF => ?_; simp [go_sem, h3, h3']; refine hT ?_; clear hT hF T F)
  refine awp_skip ?_
  refine hK2 _ ?_; clear hK2
  refine awp_seq_k fun K4 hK4 => ?_
  refine awp_block ?_
  (refine awp_sr fun Y Yh => ?_; simp [go_sem, s1']; ((repeat' (first|(refine ag_x ?_;simp [go_sem, s1'])|intro _|apply And.intro|(apply Yh;clear Yh Y)));all_goals first|apply Hold.mk|omega|with_reducible assumption|skip))
  (refine awp_r fun Y Yh => ?_; simp [go_sem, s2']; ((repeat' (first|(refine ag_x ?_;simp [go_sem, s2'])|intro _|apply And.intro|(apply Yh;clear Yh Y)));all_goals first|apply Hold.mk|omega|with_reducible assumption|skip))
  refine hK4 _ ?_; clear hK4
  (refine awp_r fun Y Yh => ?_; simp [go_sem]; ((repeat' (first|(refine ag_x ?_;simp [go_sem])|intro _|apply And.intro|(apply Yh;clear Yh Y)));all_goals first|apply Hold.mk|omega|with_reducible assumption|skip))
  refine ⟨j + 1, ?_, by omega, by omega⟩
  (refine cov_of ?_ ?_ <;> simp [go_sem])
  all_goals first | omega | skip
 ·have h3' : ¬ (n : Int) + j < long := by omega
  (refine awp_if fun T F hT hF => ?_; simp [go_sem, h3, h3']; refine hF ?_; clear hT hF T F)
  refine awp_exit ?_
  simp only [go_sem]
  refine hK1 _ ?_; clear hK1
  obtain rfl : j = long - n := by omega
  have hls : ([[dI 0], [dI 0], [dI 128], [dI 2048], [dI 65536]] : List (List D))[long]? = some [dI (lsC long)] := by
   have : long = 0 ∨ long = 1 ∨ long = 2 ∨ long = 3 ∨ long = 4 := by omega
   rcases this with rfl | rfl | rfl | rfl | rfl <;> rfl
  simp only [go_sem] at hls
  (refine awp_sr fun Y Yh => ?_; simp [go_sem, hls]; ((repeat' (first|(refine ag_x ?_;simp [go_sem, hls])|intro _|apply And.intro|(apply Yh;clear Yh Y)));all_goals first|apply Hold.mk|omega|with_reducible assumption|skip))
  unfold cLo cHi
  generalize loC b (long - n) = lo at *
  generalize hiC b (long - n) = hi at *
  generalize lsC long = ls at *
  (refine awp_sr fun Y Yh => ?_; simp [go_sem]; ((repeat' (first|(refine ag_x ?_;simp [go_sem])|intro _|apply And.intro|(apply Yh;clear Yh Y)));all_goals first|apply Hold.mk|omega|with_reducible assumption|skip))
  (refine awp_ret ?_; simp [go_sem])
  constructor
  ·split <;> rfl
  ·split <;> split <;> omega
theorem begins_spec (b n long : Nat) (hn : n ≤ long) (hl : long ≤ 4) (hb : b ≤ 8388608) : PCall Tryz.prog 176 [dI b, dI n, dI long] fun r => r = dB (begV b n long) := by
 refine pcall_of Tryz.func176 rfl rfl Tryz.ntmps176 (rs := [.tmp 6]) (tys := [4]) rfl rfl (by simp) ?_
 have HC := codes_spec b n long hn hl hb
 unfold begV
 generalize cLo b n long = lo at *
 generalize cHi b n long = hi at *
 (refine awp_sr fun Y Yh => ?_; simp [go_sem]; ((repeat' (first|(refine ag_x ?_;simp [go_sem])|intro _|apply And.intro|(apply Yh;clear Yh Y)));all_goals first|apply Hold.mk|omega|with_reducible assumption|skip))
 (refine awp_sr fun Y Yh => ?_; simp [go_sem]; ((repeat' (first|(refine ag_x ?_;simp [go_sem])|intro _|apply And.intro|(apply Yh;clear Yh Y)));all_goals first|apply Hold.mk|omega|with_reducible assumption|skip))
 ((try refine CallT.toA ?_); refine callT_m (by first|exact .inl ⟨rfl,rfl⟩|exact .inr rfl) (by simp [go_sem]) ?_; intro args ha; simp [go_sem] at ha; subst ha; refine ⟨_, HC, ?_⟩; rintro _ rfl; simp [go_sem]; ((repeat' (first|(refine ag_x ?_;simp [go_sem])|intro _|apply And.intro|(apply Yh;clear Yh Y)));all_goals first|apply Hold.mk|omega|with_reducible assumption|skip))
 by_cases c1 : lo ≤ hi
 ·by_cases c2 : 55296 ≤ lo
  ·have c2' : (55296 : Int) ≤ lo := by omega
   (refine awp_sr fun Y Yh => ?_; simp [go_sem, c1, c2, c2']; ((repeat' (first|(refine ag_false ?_ ?_ ?_;(focus (simp [go_sem, undef, c1, c2, c2'];done));(focus (simp [go_sem];done));simp [go_sem, c1, c2, c2'])|(refine ag_true ?_ ?_;(focus (simp [go_sem, undef, c1, c2, c2'];done));simp [go_sem, c1, c2, c2'])|(refine ag_x ?_;simp [go_sem, undef, c1, c2, c2'])|intro _|apply And.intro|(apply Yh;clear Yh Y)));all_goals first|apply Hold.mk|omega|with_reducible assumption|skip))
   (refine awp_ret ?_; simp [go_sem])
   simp [c1, c2]
   try omega
  ·have c2' : ¬ (55296 : Int) ≤ lo := by omega
   (refine awp_sr fun Y Yh => ?_; simp [go_sem, c1, c2, c2']; ((repeat' (first|(refine ag_false ?_ ?_ ?_;(focus (simp [go_sem, undef, c1, c2, c2'];done));(focus (simp [go_sem];done));simp [go_sem, c1, c2, c2'])|(refine ag_true ?_ ?_;(focus (simp [go_sem, undef, c1, c2, c2'];done));simp [go_sem, c1, c2, c2'])|(refine ag_x ?_;simp [go_sem, undef, c1, c2, c2'])|intro _|apply And.intro|(apply Yh;clear Yh Y)));all_goals first|apply Hold.mk|omega|with_reducible assumption|skip))
   (refine awp_ret ?_; simp [go_sem])
   simp [c1, c2]
   try omega
 ·have c1' : ¬ (lo : Int) ≤ hi := by omega
  (refine awp_sr fun Y Yh => ?_; simp [go_sem, c1, c1']; ((repeat' (first|(refine ag_false ?_ ?_ ?_;(focus (simp [go_sem, undef, c1, c1'];done));(focus (simp [go_sem];done));simp [go_sem, c1, c1'])|(refine ag_true ?_ ?_;(focus (simp [go_sem, undef, c1, c1'];done));simp [go_sem, c1, c1'])|(refine ag_x ?_;simp [go_sem, undef, c1, c1'])|intro _|apply And.intro|(apply Yh;clear Yh Y)));all_goals first|apply Hold.mk|omega|with_reducible assumption|skip))
  (refine awp_ret ?_; simp [go_sem])
  simp [c1]
structure OnS where
 n : Nat
 b : Nat
def onInv (s : Bs) (long bits : Nat) (y : OnS) : Prop := 1 ≤ y.n ∧ y.n ≤ long ∧ y.n ≤ s.length ∧ y.b < 32 * 64 ^ (y.n - 1) ∧ oneL s long 4 1 bits = oneL s long (5 - y.n) y.n y.b
theorem pow_pred {n : Nat} (h : 1 ≤ n) : (64 : Nat) ^ n = 64 ^ (n - 1) * 64 := by
 obtain ⟨m, rfl⟩ : ∃ m, n = m + 1 := ⟨n - 1, by omega⟩
 rw [Nat.pow_succ, Nat.add_sub_cancel]
set_option maxHeartbeats 16000000 in
theorem one_spec (s : Bs) (hs : 0 < s.length) : PCall Tryz.prog 136 [dS s] fun r => r = .tup [dI (oneR s).1, dI (oneR s).2] := by
 refine pcall_of Tryz.func136 rfl rfl Tryz.ntmps136 (rs := [.tmp 2, .tmp 3]) (tys := [3, 3]) rfl rfl (by simp) ?_
 have hg0 : s[0]? = some s[0] := List.getElem?_eq_getElem hs
 have hD : s.getD 0 0 = s[0] := by rw [List.getD_eq_getElem?_getD, hg0]; rfl
 unfold oneR
 rw [hD]
 have hc256 := s[0].toNat_lt
 generalize s[0] = c at *
 (refine awp_sr fun Y Yh => ?_; simp [go_sem]; ((repeat' (first|(refine ag_x ?_;simp [go_sem])|intro _|apply And.intro|(apply Yh;clear Yh Y)));all_goals first|apply Hold.mk|omega|with_reducible assumption|skip))
 (refine awp_sr fun Y Yh => ?_; simp [go_sem, hg0]; ((repeat' (first|(refine ag_x ?_;simp [go_sem, hg0])|intro _|apply And.intro|(apply Yh;clear Yh Y)));all_goals first|apply Hold.mk|omega|with_reducible assumption|skip))
 (refine awp_sr fun Y Yh => ?_; simp [go_sem]; ((repeat' (first|(refine ag_x ?_;simp [go_sem])|intro _|apply And.intro|(apply Yh;clear Yh Y)));all_goals first|apply Hold.mk|omega|with_reducible assumption|skip))
 (refine awp_sr fun Y Yh => ?_; simp [go_sem]; ((repeat' (first|(refine ag_x ?_;simp [go_sem])|intro _|apply And.intro|(apply Yh;clear Yh Y)));all_goals first|apply Hold.mk|omega|with_reducible assumption|skip))
 refine awp_seq_k fun K1 hK1 => ?_
 have tl1 : ∀ (long bits : Nat), (long = 0 ∧ bits = 0 ∨ 2 ≤ long ∧ long ≤ 4 ∧ bits < 32) → ∀ S', Cov S' ⟨[(0, dS s), (2, dI 0), (3, dI 0), (5, dI long), (6, dI bits)], []⟩ → ¬ c.toNat < 128 → (long, bits) = oneH c.toNat → K1 S' := fun long bits hlb S' hS hc0 hoh => by
  refine hK1 _ ?_; clear hK1
  refine awp_cov hS ?_; clear hS
  rw [if_neg hc0, ← hoh]
  simp only
  unfold oneT
  refine awp_seq_k fun K2 hK2 => ?_
  rcases hlb with ⟨rfl, rfl⟩ | ⟨hl2, hl4, hb32⟩
  ·(refine awp_sr fun Y Yh => ?_; simp [go_sem]; ((repeat' (first|(refine ag_false ?_ ?_ ?_;(focus (simp [go_sem, undef];done));(focus (simp [go_sem];done));simp [go_sem])|(refine ag_x ?_;simp [go_sem, undef])|intro _|apply And.intro|(apply Yh;clear Yh Y)));all_goals first|apply Hold.mk|omega|with_reducible assumption|skip))
   (refine awp_if fun T F hT hF => ?_; simp [go_sem]; refine hT ?_; clear hT hF T F)
   (refine awp_sr fun Y Yh => ?_; simp [go_sem]; ((repeat' (first|(refine ag_x ?_;simp [go_sem])|intro _|apply And.intro|(apply Yh;clear Yh Y)));all_goals first|apply Hold.mk|omega|with_reducible assumption|skip))
   (refine awp_ret ?_; simp [go_sem])
  ·have hl0 : ¬ long = 0 := by omega
   have hl0' : ¬ (long : Int) = 0 := by omega
   have HB := begins_spec bits 1 long (by omega) hl4 (by omega)
   generalize hbv : begV bits 1 long = bv at *
   (refine awp_sr fun Y Yh => ?_; simp [go_sem, hl0, hl0']; ((repeat' (first|(refine ag_false ?_ ?_ ?_;(focus (simp [go_sem, undef, hl0, hl0'];done));(focus (simp [go_sem];done));simp [go_sem, hl0, hl0'])|(refine ag_true ?_ ?_;(focus (simp [go_sem, undef, hl0, hl0'];done));simp [go_sem, hl0, hl0'])|(refine ag_x ?_;simp [go_sem, undef, hl0, hl0'])|intro _|apply And.intro|(apply Yh;clear Yh Y)));all_goals first|apply Hold.mk|omega|with_reducible assumption|skip))
   ((try refine CallT.toA ?_); refine callT_m (by first|exact .inl ⟨rfl,rfl⟩|exact .inr rfl) (by simp [go_sem]) ?_; intro args ha; simp [go_sem] at ha; subst ha; refine ⟨_, HB, ?_⟩; rintro _ rfl; simp [go_sem]; ((repeat' (first|(refine ag_false ?_ ?_ ?_;(focus (simp [go_sem, undef];done));(focus (simp [go_sem];done));simp [go_sem])|(refine ag_true ?_ ?_;(focus (simp [go_sem, undef];done));simp [go_sem])|(refine ag_x ?_;simp [go_sem, undef])|intro _|apply And.intro|(apply Yh;clear Yh Y)));all_goals first|apply Hold.mk|omega|with_reducible assumption|skip))
   cases bv with
   | false =>
    (refine awp_if fun T F hT hF => ?_; simp [go_sem]; refine hT ?_; clear hT hF T F)
    (refine awp_sr fun Y Yh => ?_; simp [go_sem]; ((repeat' (first|(refine ag_x ?_;simp [go_sem])|intro _|apply And.intro|(apply Yh;clear Yh Y)));all_goals first|apply Hold.mk|omega|with_reducible assumption|skip))
    (refine awp_ret ?_; simp [go_sem, hl0, hbv])
   | true =>
    (refine awp_if fun T F hT hF => ?_; simp [go_sem]; refine hF ?_; clear hT hF T F)
    refine awp_skip ?_
    refine hK2 _ ?_; clear hK2
    rw [if_neg (by simp [hl0])]
    (refine awp_sr fun Y Yh => ?_; simp [go_sem]; ((repeat' (first|(refine ag_x ?_;simp [go_sem])|intro _|apply And.intro|(apply Yh;clear Yh Y)));all_goals first|apply Hold.mk|omega|with_reducible assumption|skip))
    refine awp_seq_k fun K3 hK3 => ?_
    have tl3 : ∀ (n b : Nat), n ≤ long → oneL s long 4 1 bits = (n, b) → ∀ S', Cov S' ⟨[(2, dI 0), (3, dI 0), (5, dI long), (6, dI b), (7, dI n)], []⟩ → K3 S' := fun n b hnl hol S' hS => by
     refine hK3 _ ?_; clear hK3
     refine awp_cov hS ?_; clear hS
     rw [hol]
     simp only
     refine awp_seq_k fun K4 hK4 => ?_
     (refine awp_sr fun Y Yh => ?_; simp [go_sem]; ((repeat' (first|(refine ag_x ?_;simp [go_sem])|intro _|apply And.intro|(apply Yh;clear Yh Y)));all_goals first|apply Hold.mk|omega|with_reducible assumption|skip))
     by_cases h : n < long
     ·(refine awp_if fun T F hT hF => ?_; simp [go_sem, h]; refine hT ?_; clear hT hF T F)
      (refine awp_sr fun Y Yh => ?_; simp [go_sem]; ((repeat' (first|(refine ag_x ?_;simp [go_sem])|intro _|apply And.intro|(apply Yh;clear Yh Y)));all_goals first|apply Hold.mk|omega|with_reducible assumption|skip))
      (refine awp_ret ?_; simp [go_sem, h])
     ·(refine awp_if fun T F hT hF => ?_; simp [go_sem, h]; refine hF ?_; clear hT hF T F)
      refine awp_skip ?_
      refine hK4 _ ?_; clear hK4
      (refine awp_sr fun Y Yh => ?_; simp [go_sem]; ((repeat' (first|(refine ag_x ?_;simp [go_sem])|intro _|apply And.intro|(apply Yh;clear Yh Y)));all_goals first|apply Hold.mk|omega|with_reducible assumption|skip))
      (refine awp_ret ?_; simp [go_sem, h])
    clear hK3
    refine awp_block ?_
    refine awp_loop (σ := OnS) (fun y => ⟨[(0, dS s), (2, dI 0), (3, dI 0), (5, dI long), (6, dI y.b), (7, dI y.n)], []⟩) (onInv s long bits) (fun y => long - y.n) ⟨1, bits⟩ ?_ ⟨Nat.le_refl _, by simp only; omega, hs, by simpa using hb32, rfl⟩ ?_
    ·(refine cov_of ?_ ?_ <;> simp [go_sem])
    rintro ⟨n, b⟩ ⟨hn1, hnl, hns, hb, hol⟩
    simp only at hn1 hnl hns hb hol ⊢
    have hb17 : n ≤ 3 → b * 64 + 63 ≤ 8388608 := fun h3 => by
     have h4 : (64 : Nat) ^ (n - 1) ≤ 64 ^ 2 := Nat.pow_le_pow_right (by decide) (by omega)
     have e : (64 : Nat) ^ 2 = 4096 := by decide
     have h5 := Nat.mul_le_mul_left 32 h4
     rw [e] at h5
     omega
    obtain ⟨f, hf⟩ : ∃ f, 5 - n = f + 1 := ⟨4 - n, by omega⟩
    have hstep : oneL s long (5 - n) n b = if n < long ∧ n < s.length ∧ 128 ≤ (s.getD n 0).toNat ∧ (s.getD n 0).toNat < 192 ∧ begV (b * 64 + (s.getD n 0).toNat - 128) (n + 1) long = true then oneL s long f (n + 1) (b * 64 + (s.getD n 0).toNat - 128) else (n, b) := by
     rw [hf, oneL]
    have hf2 : f = 5 - (n + 1) := by omega
    subst hf2
    rw [hstep] at hol
    clear hstep
    refine awp_seq_k fun K5 hK5 => ?_
    by_cases q1 : n < long
    ·have q1' : (n : Int) < long := by omega
     by_cases q2 : n < s.length
     ·have q2' : (n : Int) < s.length := by omega
      have hg : s[n]? = some s[n] := List.getElem?_eq_getElem q2
      have hD' : s.getD n 0 = s[n] := by rw [List.getD_eq_getElem?_getD, hg]; rfl
      rw [hD'] at hol
      have hd256 := s[n].toNat_lt
      by_cases q3 : 128 ≤ s[n].toNat
      ·have q3' : (128 : Int) ≤ s[n].toNat := by omega
       by_cases q4 : s[n].toNat < 192
       ·have q4' : (s[n].toNat : Int) < 192 := by omega
        have e1 : (b : Int) * 64 + s[n].toNat - 128 = ((b * 64 + s[n].toNat - 128 : Nat) : Int) := by omega
        have hd6 : s[n].toNat - 128 ≤ 63 := by omega
        have HBn := begins_spec (b * 64 + s[n].toNat - 128) (n + 1) long (by omega) hl4 (by have := hb17 (by omega); omega)
        have hpow : b * 64 + s[n].toNat - 128 < 32 * 64 ^ (n + 1 - 1) := by
         have e64 := pow_pred hn1
         rw [Nat.add_sub_cancel, e64]
         generalize 64 ^ (n - 1) = p at *
         omega
        generalize hbv : begV (b * 64 + s[n].toNat - 128) (n + 1) long = bv at *
        (refine awp_sr fun Y Yh => ?_; simp [go_sem, q1, q1', q2, q2', hg, q3, q3', q4, q4', e1]; ((repeat' (first|(refine ag_false ?_ ?_ ?_;(focus (simp [go_sem, undef, q1, q1', q2, q2', hg, q3, q3', q4, q4', e1];done));(focus (simp [go_sem];done));simp [go_sem, q1, q1', q2, q2', hg, q3, q3', q4, q4', e1])|(refine ag_true ?_ ?_;(focus (simp [go_sem, undef, q1, q1', q2, q2', hg, q3, q3', q4, q4', e1];done));simp [go_sem, q1, q1', q2, q2', hg, q3, q3', q4, q4', e1])|(refine ag_x ?_;simp [go_sem, undef, q1, q1', q2, q2', hg, q3, q3', q4, q4', e1])|intro _|apply And.intro|(apply Yh;clear Yh Y)));all_goals first|apply Hold.mk|omega|with_reducible assumption|skip))
        ((try refine CallT.toA ?_); refine callT_m (by first|exact .inl ⟨rfl,rfl⟩|exact .inr rfl) (by simp [go_sem]) ?_; intro args ha; simp [go_sem] at ha; subst ha; refine ⟨_, HBn, ?_⟩; rintro _ rfl; simp [go_sem, e1]; ((repeat' (first|(refine ag_false ?_ ?_ ?_;(focus (simp [go_sem, undef, e1];done));(focus (simp [go_sem];done));simp [go_sem, e1])|(refine ag_true ?_ ?_;(focus (simp [go_sem, undef, e1];done));simp [go_sem, e1])|(refine ag_x ?_;simp [go_sem, undef, e1])|intro _|apply And.intro|(apply Yh;clear Yh Y)));all_goals first|apply Hold.mk|omega|with_reducible assumption|skip))
        cases bv with
        | false =>
         rw [if_neg (by rintro ⟨_, _, _, _, h⟩; cases h)] at hol
         (refine awp_if fun T F hT hF => ?_; simp [go_sem]; refine hF ?_; clear hT hF T F)
         refine awp_exit ?_
         simp only [go_sem]
         refine tl3 n b hnl hol _ ?_
         (refine cov_of ?_ ?_ <;> simp [go_sem])
        | true =>
         rw [if_pos ⟨q1, q2, q3, q4, rfl⟩] at hol
         (refine awp_if fun T F hT hF => ?_; simp [go_sem]; refine hT ?_; clear hT hF T F)
         refine awp_skip ?_
         refine hK5 _ ?_; clear hK5
         refine awp_block ?_
         (refine awp_sr fun Y Yh => ?_; simp [go_sem, hg, q2, e1]; ((repeat' (first|(refine ag_x ?_;simp [go_sem, hg, q2, e1])|intro _|apply And.intro|(apply Yh;clear Yh Y)));all_goals first|apply Hold.mk|omega|with_reducible assumption|skip))
         (refine awp_r fun Y Yh => ?_; simp [go_sem]; ((repeat' (first|(refine ag_x ?_;simp [go_sem])|intro _|apply And.intro|(apply Yh;clear Yh Y)));all_goals first|apply Hold.mk|omega|with_reducible assumption|skip))
         refine ⟨⟨n + 1, b * 64 + s[n].toNat - 128⟩, ?_, ⟨by simp only; omega, by simp only; omega, by simp only; omega, hpow, hol⟩, by simp only; omega⟩
         (refine cov_of ?_ ?_ <;> simp [go_sem])
       ·have q4' : ¬ (s[n].toNat : Int) < 192 := by omega
        rw [if_neg (by rintro ⟨_, _, _, h, _⟩; exact q4 h)] at hol
        (refine awp_sr fun Y Yh => ?_; simp [go_sem, q1, q1', q2, q2', hg, q3, q3', q4, q4']; ((repeat' (first|(refine ag_false ?_ ?_ ?_;(focus (simp [go_sem, undef, q1, q1', q2, q2', hg, q3, q3', q4, q4'];done));(focus (simp [go_sem];done));simp [go_sem, q1, q1', q2, q2', hg, q3, q3', q4, q4'])|(refine ag_true ?_ ?_;(focus (simp [go_sem, undef, q1, q1', q2, q2', hg, q3, q3', q4, q4'];done));simp [go_sem, q1, q1', q2, q2', hg, q3, q3', q4, q4'])|(refine ag_x ?_;simp [go_sem, undef, q1, q1', q2, q2', hg, q3, q3', q4, q4'])|intro _|apply And.intro|(apply Yh;clear Yh Y)));all_goals first|apply Hold.mk|omega|with_reducible assumption|skip))
        (refine awp_if fun T F hT hF => ?_; simp [go_sem]; refine hF ?_; clear hT hF T F)
        refine awp_exit ?_
        simp only [go_sem]
        refine tl3 n b hnl hol _ ?_
        (refine cov_of ?_ ?_ <;> simp [go_sem])
      ·have q3' : ¬ (128 : Int) ≤ s[n].toNat := by omega
       rw [if_neg (by rintro ⟨_, _, h, _, _⟩; exact q3 h)] at hol
       (refine awp_sr fun Y Yh => ?_; simp [go_sem, q1, q1', q2, q2', hg, q3, q3']; ((repeat' (first|(refine ag_false ?_ ?_ ?_;(focus (simp [go_sem, undef, q1, q1', q2, q2', hg, q3, q3'];done));(focus (simp [go_sem];done));simp [go_sem, q1, q1', q2, q2', hg, q3, q3'])|(refine ag_true ?_ ?_;(focus (simp [go_sem, undef, q1, q1', q2, q2', hg, q3, q3'];done));simp [go_sem, q1, q1', q2, q2', hg, q3, q3'])|(refine ag_x ?_;simp [go_sem, undef, q1, q1', q2, q2', hg, q3, q3'])|intro _|apply And.intro|(apply Yh;clear Yh Y)));all_goals first|apply Hold.mk|omega|with_reducible assumption|skip))
       (refine awp_if fun T F hT hF => ?_; simp [go_sem]; refine hF ?_; clear hT hF T F)
       refine awp_exit ?_
       simp only [go_sem]
       refine tl3 n b hnl hol _ ?_
       (refine cov_of ?_ ?_ <;> simp [go_sem])
     ·have q2' : ¬ (n : Int) < s.length := by omega
      rw [if_neg (by rintro ⟨_, h, _, _, _⟩; exact q2 h)] at hol
      (refine awp_sr fun Y Yh => ?_; simp [go_sem, q1, q1', q2, q2']; ((repeat' (first|(refine ag_false ?_ ?_ ?_;(focus (simp [go_sem, undef, q1, q1', q2, q2'];done));(focus (simp [go_sem];done));simp [go_sem, q1, q1', q2, q2'])|(refine ag_true ?_ ?_;(focus (simp [go_sem, undef, q1, q1', q2, q2'];done));simp [go_sem, q1, q1', q2, q2'])|(refine ag_x ?_;simp [go_sem, undef, q1, q1', q2, q2'])|intro _|apply And.intro|(apply Yh;clear Yh Y)));all_goals first|apply Hold.mk|omega|with_reducible assumption|skip))
      (refine awp_if fun T F hT hF => ?_; simp [go_sem]; refine hF ?_; clear hT hF T F)
      refine awp_exit ?_
      simp only [go_sem]
      refine tl3 n b hnl hol _ ?_
      (refine cov_of ?_ ?_ <;> simp [go_sem])
    ·have q1' : ¬ (n : Int) < long := by omega
     rw [if_neg (by rintro ⟨h, _, _, _, _⟩; exact q1 h)] at hol
     (refine awp_sr fun Y Yh => ?_; simp [go_sem, q1, q1']; ((repeat' (first|(refine ag_false ?_ ?_ ?_;(focus (simp [go_sem, undef, q1, q1'];done));(focus (simp [go_sem];done));simp [go_sem, q1, q1'])|(refine ag_true ?_ ?_;(focus (simp [go_sem, undef, q1, q1'];done));simp [go_sem, q1, q1'])|(refine ag_x ?_;simp [go_sem, undef, q1, q1'])|intro _|apply And.intro|(apply Yh;clear Yh Y)));all_goals first|apply Hold.mk|omega|with_reducible assumption|skip))
     (refine awp_if fun T F hT hF => ?_; simp [go_sem]; refine hF ?_; clear hT hF T F)
     refine awp_exit ?_
     simp only [go_sem]
     refine tl3 n b hnl hol _ ?_
     (refine cov_of ?_ ?_ <;> simp [go_sem])
 clear hK1
 refine awp_block ?_
 (refine awp_sr fun Y Yh => ?_; simp [go_sem]; ((repeat' (first|(refine ag_x ?_;simp [go_sem])|intro _|apply And.intro|(apply Yh;clear Yh Y)));all_goals first|apply Hold.mk|omega|with_reducible assumption|skip))
 by_cases h0 : c.toNat < 128
 ·have h0' : (c.toNat : Int) < 128 := by omega
  (refine awp_if fun T F hT hF => ?_; simp [go_sem, h0, h0']; refine hT ?_; clear hT hF T F)
  (refine awp_sr fun Y Yh => ?_; simp [go_sem]; ((repeat' (first|(refine ag_x ?_;simp [go_sem])|intro _|apply And.intro|(apply Yh;clear Yh Y)));all_goals first|apply Hold.mk|omega|with_reducible assumption|skip))
  (refine awp_ret ?_; simp [go_sem, h0])
 ·have h0' : ¬ (c.toNat : Int) < 128 := by omega
  (refine awp_if fun T F hT hF => ?_; simp [go_sem, h0, h0']; refine hF ?_; clear hT hF T F)
  have hoh : ∀ (l b : Nat), (l, b) = oneH c.toNat → (l, b) = oneH c.toNat := fun _ _ h => h
  unfold oneH at tl1
  by_cases h1 : 192 ≤ c.toNat ∧ c.toNat < 224
  ·have h1a : (192 : Int) ≤ c.toNat := by omega
   have h1b : (c.toNat : Int) < 224 := by omega
   have ec : (c.toNat : Int) - 192 = ((c.toNat - 192 : Nat) : Int) := by omega
   (refine awp_sr fun Y Yh => ?_; simp [go_sem, h1.1, h1.2, h1a, h1b]; ((repeat' (first|(refine ag_false ?_ ?_ ?_;(focus (simp [go_sem, undef, h1.1, h1.2, h1a, h1b];done));(focus (simp [go_sem];done));simp [go_sem, h1.1, h1.2, h1a, h1b])|(refine ag_true ?_ ?_;(focus (simp [go_sem, undef, h1.1, h1.2, h1a, h1b];done));simp [go_sem, h1.1, h1.2, h1a, h1b])|(refine ag_x ?_;simp [go_sem, undef, h1.1, h1.2, h1a, h1b])|intro _|apply And.intro|(apply Yh;clear Yh Y)));all_goals first|apply Hold.mk|omega|with_reducible assumption|skip))
   (refine awp_if fun T F hT hF => ?_; simp [go_sem]; refine hT ?_; clear hT hF T F)
   (refine awp_r fun Y Yh => ?_; simp [go_sem, ec]; ((repeat' (first|(refine ag_x ?_;simp [go_sem, ec])|intro _|apply And.intro|(apply Yh;clear Yh Y)));all_goals first|apply Hold.mk|omega|with_reducible assumption|skip))
   refine tl1 2 (c.toNat - 192) (.inr ⟨by omega, by omega, by omega⟩) _ ?_ h0 (by rw [if_pos h1])
   (refine cov_of ?_ ?_ <;> simp [go_sem])
  ·rw [if_neg h1] at tl1
   by_cases h2 : c.toNat < 192
   ·have a1 : ¬ 192 ≤ c.toNat := by omega
    have a2 : ¬ (192 : Int) ≤ c.toNat := by omega
    have a3 : ¬ 224 ≤ c.toNat := by omega
    have a4 : ¬ (224 : Int) ≤ c.toNat := by omega
    have a5 : ¬ 240 ≤ c.toNat := by omega
    have a6 : ¬ (240 : Int) ≤ c.toNat := by omega
    (refine awp_sr fun Y Yh => ?_; simp [go_sem, a1, a2]; ((repeat' (first|(refine ag_false ?_ ?_ ?_;(focus (simp [go_sem, undef, a1, a2];done));(focus (simp [go_sem];done));simp [go_sem, a1, a2])|(refine ag_true ?_ ?_;(focus (simp [go_sem, undef, a1, a2];done));simp [go_sem, a1, a2])|(refine ag_x ?_;simp [go_sem, undef, a1, a2])|intro _|apply And.intro|(apply Yh;clear Yh Y)));all_goals first|apply Hold.mk|omega|with_reducible assumption|skip))
    (refine awp_if fun T F hT hF => ?_; simp [go_sem]; refine hF ?_; clear hT hF T F)
    (refine awp_sr fun Y Yh => ?_; simp [go_sem, a3, a4]; ((repeat' (first|(refine ag_false ?_ ?_ ?_;(focus (simp [go_sem, undef, a3, a4];done));(focus (simp [go_sem];done));simp [go_sem, a3, a4])|(refine ag_true ?_ ?_;(focus (simp [go_sem, undef, a3, a4];done));simp [go_sem, a3, a4])|(refine ag_x ?_;simp [go_sem, undef, a3, a4])|intro _|apply And.intro|(apply Yh;clear Yh Y)));all_goals first|apply Hold.mk|omega|with_reducible assumption|skip))
    (refine awp_if fun T F hT hF => ?_; simp [go_sem]; refine hF ?_; clear hT hF T F)
    (refine awp_sr fun Y Yh => ?_; simp [go_sem, a5, a6]; ((repeat' (first|(refine ag_false ?_ ?_ ?_;(focus (simp [go_sem, undef, a5, a6];done));(focus (simp [go_sem];done));simp [go_sem, a5, a6])|(refine ag_true ?_ ?_;(focus (simp [go_sem, undef, a5, a6];done));simp [go_sem, a5, a6])|(refine ag_x ?_;simp [go_sem, undef, a5, a6])|intro _|apply And.intro|(apply Yh;clear Yh Y)));all_goals first|apply Hold.mk|omega|with_reducible assumption|skip))
    (refine awp_if fun T F hT hF => ?_; simp [go_sem]; refine hF ?_; clear hT hF T F)
    refine awp_skip ?_
    refine tl1 0 0 (.inl ⟨rfl, rfl⟩) _ ?_ h0 (by rw [if_neg (by omega), if_neg (by omega)])
    (refine cov_of ?_ ?_ <;> simp [go_sem])
   ·have a1 : 192 ≤ c.toNat := by omega
    have a2 : (192 : Int) ≤ c.toNat := by omega
    have b1 : ¬ c.toNat < 224 := by omega
    have b2 : ¬ (c.toNat : Int) < 224 := by omega
    have a3 : 224 ≤ c.toNat := by omega
    have a4 : (224 : Int) ≤ c.toNat := by omega
    (refine awp_sr fun Y Yh => ?_; simp [go_sem, a1, a2, b1, b2]; ((repeat' (first|(refine ag_false ?_ ?_ ?_;(focus (simp [go_sem, undef, a1, a2, b1, b2];done));(focus (simp [go_sem];done));simp [go_sem, a1, a2, b1, b2])|(refine ag_true ?_ ?_;(focus (simp [go_sem, undef, a1, a2, b1, b2];done));simp [go_sem, a1, a2, b1, b2])|(refine ag_x ?_;simp [go_sem, undef, a1, a2, b1, b2])|intro _|apply And.intro|(apply Yh;clear Yh Y)));all_goals first|apply Hold.mk|omega|with_reducible assumption|skip))
    (refine awp_if fun T F hT hF => ?_; simp [go_sem]; refine hF ?_; clear hT hF T F)
    by_cases h3 : c.toNat < 240
    ·have c1 : (c.toNat : Int) < 240 := by omega
     have ec : (c.toNat : Int) - 224 = ((c.toNat - 224 : Nat) : Int) := by omega
     (refine awp_sr fun Y Yh => ?_; simp [go_sem, a3, a4, h3, c1]; ((repeat' (first|(refine ag_false ?_ ?_ ?_;(focus (simp [go_sem, undef, a3, a4, h3, c1];done));(focus (simp [go_sem];done));simp [go_sem, a3, a4, h3, c1])|(refine ag_true ?_ ?_;(focus (simp [go_sem, undef, a3, a4, h3, c1];done));simp [go_sem, a3, a4, h3, c1])|(refine ag_x ?_;simp [go_sem, undef, a3, a4, h3, c1])|intro _|apply And.intro|(apply Yh;clear Yh Y)));all_goals first|apply Hold.mk|omega|with_reducible assumption|skip))
     (refine awp_if fun T F hT hF => ?_; simp [go_sem]; refine hT ?_; clear hT hF T F)
     (refine awp_r fun Y Yh => ?_; simp [go_sem, ec]; ((repeat' (first|(refine ag_x ?_;simp [go_sem, ec])|intro _|apply And.intro|(apply Yh;clear Yh Y)));all_goals first|apply Hold.mk|omega|with_reducible assumption|skip))
     refine tl1 3 (c.toNat - 224) (.inr ⟨by omega, by omega, by omega⟩) _ ?_ h0 (by rw [if_pos ⟨a3, h3⟩])
     (refine cov_of ?_ ?_ <;> simp [go_sem])
    ·have c1 : ¬ (c.toNat : Int) < 240 := by omega
     have a5 : 240 ≤ c.toNat := by omega
     have a6 : (240 : Int) ≤ c.toNat := by omega
     (refine awp_sr fun Y Yh => ?_; simp [go_sem, a3, a4, h3, c1]; ((repeat' (first|(refine ag_false ?_ ?_ ?_;(focus (simp [go_sem, undef, a3, a4, h3, c1];done));(focus (simp [go_sem];done));simp [go_sem, a3, a4, h3, c1])|(refine ag_true ?_ ?_;(focus (simp [go_sem, undef, a3, a4, h3, c1];done));simp [go_sem, a3, a4, h3, c1])|(refine ag_x ?_;simp [go_sem, undef, a3, a4, h3, c1])|intro _|apply And.intro|(apply Yh;clear Yh Y)));all_goals first|apply Hold.mk|omega|with_reducible assumption|skip))
     (refine awp_if fun T F hT hF => ?_; simp [go_sem]; refine hF ?_; clear hT hF T F)
     rw [if_neg (by omega)] at tl1
     by_cases h4 : c.toNat < 248
     ·have d1 : (c.toNat : Int) < 248 := by omega
      have ec : (c.toNat : Int) - 240 = ((c.toNat - 240 : Nat) : Int) := by omega
      (refine awp_sr fun Y Yh => ?_; simp [go_sem, a5, a6, h4, d1]; ((repeat' (first|(refine ag_false ?_ ?_ ?_;(focus (simp [go_sem, undef, a5, a6, h4, d1];done));(focus (simp [go_sem];done));simp [go_sem, a5, a6, h4, d1])|(refine ag_true ?_ ?_;(focus (simp [go_sem, undef, a5, a6, h4, d1];done));simp [go_sem, a5, a6, h4, d1])|(refine ag_x ?_;simp [go_sem, undef, a5, a6, h4, d1])|intro _|apply And.intro|(apply Yh;clear Yh Y)));all_goals first|apply Hold.mk|omega|with_reducible assumption|skip))
      (refine awp_if fun T F hT hF => ?_; simp [go_sem]; refine hT ?_; clear hT hF T F)
      (refine awp_r fun Y Yh => ?_; simp [go_sem, ec]; ((repeat' (first|(refine ag_x ?_;simp [go_sem, ec])|intro _|apply And.intro|(apply Yh;clear Yh Y)));all_goals first|apply Hold.mk|omega|with_reducible assumption|skip))
      refine tl1 4 (c.toNat - 240) (.inr ⟨by omega, by omega, by omega⟩) _ ?_ h0 (by rw [if_pos ⟨a5, h4⟩])
      (refine cov_of ?_ ?_ <;> simp [go_sem])
     ·have d1 : ¬ (c.toNat : Int) < 248 := by omega
      (refine awp_sr fun Y Yh => ?_; simp [go_sem, a5, a6, h4, d1]; ((repeat' (first|(refine ag_false ?_ ?_ ?_;(focus (simp [go_sem, undef, a5, a6, h4, d1];done));(focus (simp [go_sem];done));simp [go_sem, a5, a6, h4, d1])|(refine ag_true ?_ ?_;(focus (simp [go_sem, undef, a5, a6, h4, d1];done));simp [go_sem, a5, a6, h4, d1])|(refine ag_x ?_;simp [go_sem, undef, a5, a6, h4, d1])|intro _|apply And.intro|(apply Yh;clear Yh Y)));all_goals first|apply Hold.mk|omega|with_reducible assumption|skip))
      (refine awp_if fun T F hT hF => ?_; simp [go_sem]; refine hF ?_; clear hT hF T F)
      refine awp_skip ?_
      refine tl1 0 0 (.inl ⟨rfl, rfl⟩) _ ?_ h0 (by rw [if_neg (by omega)])
      (refine cov_of ?_ ?_ <;> simp [go_sem])
end Go.Proofs.YtkgmecjaejaehaaGreatDoor
namespace Go.Js
open Go.Lib
/-! the document reads a character as the library does -/
theorem beg12 {b : Nat} (h : b < 32) : begV b 1 2 = true ↔ 2 ≤ b := by
 have e : ∀ b < 32, (begV b 1 2 = true ↔ 2 ≤ b) := by decide +kernel
 exact e b h
theorem beg13 {b : Nat} (h : b < 16) : begV b 1 3 = true := by
 have e : ∀ b < 16, begV b 1 3 = true := by decide +kernel
 exact e b h
theorem beg14 {b : Nat} (h : b < 8) : begV b 1 4 = true ↔ b ≤ 4 := by
 have e : ∀ b < 8, (begV b 1 4 = true ↔ b ≤ 4) := by decide +kernel
 exact e b h
theorem beg23 {v : Nat} (h : v < 1024) : begV v 2 3 = true ↔ 32 ≤ v ∧ ¬ (864 ≤ v ∧ v ≤ 895) := by
 have e : ∀ v < 1024, (begV v 2 3 = true ↔ 32 ≤ v ∧ ¬ (864 ≤ v ∧ v ≤ 895)) := by decide +kernel
 exact e v h
theorem beg24 {v : Nat} (h : v < 512) : begV v 2 4 = true ↔ 16 ≤ v ∧ v ≤ 271 := by
 have e : ∀ v < 512, (begV v 2 4 = true ↔ 16 ≤ v ∧ v ≤ 271) := by decide +kernel
 exact e v h
theorem beg_end (v long : Nat) : begV v long long = true ↔ lsC long ≤ v ∧ v ≤ 1114111 ∧ ¬ (55296 ≤ v ∧ v ≤ 57343) ∨ (v < lsC long ∧ lsC long ≤ v) := by
 unfold begV cLo cHi loC hiC
 simp only [Nat.sub_self, Nat.pow_zero, Nat.mul_one, Nat.add_zero, Bool.and_eq_true, decide_eq_true_eq, Bool.not_eq_true', Bool.and_eq_false_iff, decide_eq_false_iff_not]
 generalize lsC long = ls
 repeat' split
 all_goals omega
theorem beg22 (v : Nat) : begV v 2 2 = true ↔ 128 ≤ v ∧ v ≤ 1114111 ∧ ¬ (55296 ≤ v ∧ v ≤ 57343) := by
 rw [beg_end]; have : lsC 2 = 128 := rfl; omega
theorem beg33 (v : Nat) : begV v 3 3 = true ↔ 2048 ≤ v ∧ v ≤ 1114111 ∧ ¬ (55296 ≤ v ∧ v ≤ 57343) := by
 rw [beg_end]; have : lsC 3 = 2048 := rfl; omega
theorem beg44 (v : Nat) : begV v 4 4 = true ↔ 65536 ≤ v ∧ v ≤ 1114111 ∧ ¬ (55296 ≤ v ∧ v ≤ 57343) := by
 rw [beg_end]; have : lsC 4 = 65536 := rfl; omega
theorem beg34 (v : Nat) (h : v ≤ 100000) : begV v 3 4 = true ↔ 1024 ≤ v ∧ v ≤ 17407 := by
 unfold begV cLo cHi loC hiC
 have : lsC 4 = 65536 := rfl
 rw [this]
 simp only [show 4 - 3 = 1 from rfl, Nat.pow_one, Bool.and_eq_true, decide_eq_true_eq, Bool.not_eq_true', Bool.and_eq_false_iff, decide_eq_false_iff_not]
 repeat' split
 all_goals omega
def oneOk (len : Nat) (d : Nat × Nat) (r : Nat × Int) : Prop := if d.1 = 65533 ∧ d.2 = 1 then r.2 = -1 ∧ 1 ≤ r.1 ∧ r.1 ≤ len else r = (d.2, (d.1 : Int))
theorem oneL_succ (s : List UInt8) (long f n b : Nat) : oneL s long (f + 1) n b = if n < long ∧ n < s.length ∧ 128 ≤ (s.getD n 0).toNat ∧ (s.getD n 0).toNat < 192 ∧ begV (b * 64 + (s.getD n 0).toNat - 128) (n + 1) long = true then oneL s long f (n + 1) (b * 64 + (s.getD n 0).toNat - 128) else (n, b) := rfl
theorem oneT_bad {s : List UInt8} {long b : Nat} (h : begV b 1 long = false) : oneT s long b = (1, -1) := by
 unfold oneT; rw [if_pos (.inr h)]
theorem oneT_of {s : List UInt8} {long b n v : Nat} (h0 : long ≠ 0) (h : begV b 1 long = true) (hL : oneL s long 4 1 b = (n, v)) : oneT s long b = if n < long then (n, -1) else (n, (v : Int)) := by
 unfold oneT; rw [if_neg (by simp [h0, h]), hL]
theorem oneOk_bad {len n : Nat} (h1 : 1 ≤ n) (h2 : n ≤ len) : oneOk len (65533, 1) (n, -1) := by
 unfold oneOk; rw [if_pos ⟨rfl, rfl⟩]; exact ⟨rfl, h1, h2⟩
theorem oneOk_good {len n v : Nat} (h1 : 1 < n) : oneOk len (v, n) (n, (v : Int)) := by
 unfold oneOk; rw [if_neg (by simp only; omega)]
theorem one_dec2 (s : List UInt8) (h0 : 192 ≤ (s.getD 0 0).toNat) (h1 : (s.getD 0 0).toNat < 224) (hs : 0 < s.length) : oneOk s.length (decodeL s) (oneT s 2 ((s.getD 0 0).toNat - 192)) := by
 rw [decodeL_N]
 have L1 := oneL_succ s 2 3 1 ((s.getD 0 0).toNat - 192)
 have L2 := oneL_succ s 2 2 2
 generalize (s.getD 0 0).toNat = b0 at *
 have hb1 := (s.getD 1 0).toNat_lt
 generalize (s.getD 1 0).toNat = b1 at *
 have e1 := beg12 (b := b0 - 192) (by omega)
 have e2 := beg22 ((b0 - 192) * 64 + b1 - 128)
 by_cases c1 : begV (b0 - 192) 1 2 = true
 ·have c1' := e1.1 c1
  by_cases c2 : 1 < s.length ∧ 128 ≤ b1 ∧ b1 < 192
  ·have v : begV ((b0 - 192) * 64 + b1 - 128) 2 2 = true := e2.2 (by omega)
   rw [if_pos ⟨by decide, c2.1, c2.2.1, c2.2.2, v⟩, L2, if_neg (by rintro ⟨h, _⟩; omega)] at L1
   rw [oneT_of (by decide) c1 L1, if_neg (by decide)]
   have hd : decodeN s.length b0 b1 (s.getD 2 0).toNat (s.getD 3 0).toNat = ((b0 - 192) * 64 + b1 - 128, 2) := by
    unfold decodeN
    rw [if_neg (by omega), if_pos ⟨by omega, c2.1, by omega⟩, if_pos (by omega)]
    rw [Prod.mk.injEq]
    exact ⟨by omega, rfl⟩
   rw [hd]
   generalize (b0 - 192) * 64 + b1 - 128 = vv
   exact oneOk_good (by decide)
  ·rw [if_neg (by rintro ⟨_, a, b, c, _⟩; exact c2 ⟨a, b, c⟩)] at L1
   rw [oneT_of (by decide) c1 L1, if_pos (by decide)]
   have hd : decodeN s.length b0 b1 (s.getD 2 0).toNat (s.getD 3 0).toNat = (65533, 1) := by
    unfold decodeN
    rw [if_neg (by omega), if_neg (by omega), if_neg (by omega), if_neg (by omega)]
   rw [hd]
   exact oneOk_bad (by decide) hs
 ·rw [oneT_bad (by simpa using c1)]
  have c1' : ¬ 2 ≤ b0 - 192 := fun q => c1 (e1.2 q)
  have hd : decodeN s.length b0 b1 (s.getD 2 0).toNat (s.getD 3 0).toNat = (65533, 1) := by
   unfold decodeN
   rw [if_neg (by omega)]
   by_cases q : b0 / 32 = 6 ∧ (1 < s.length ∧ b1 / 64 = 2)
   ·rw [if_pos q, if_neg (by omega)]
   ·rw [if_neg q, if_neg (by omega), if_neg (by omega)]
  rw [hd]
  exact oneOk_bad (by decide) hs
theorem one_dec3 (s : List UInt8) (h0 : 224 ≤ (s.getD 0 0).toNat) (h1 : (s.getD 0 0).toNat < 240) (hs : 0 < s.length) : oneOk s.length (decodeL s) (oneT s 3 ((s.getD 0 0).toNat - 224)) := by
 rw [decodeL_N]
 have L1 := oneL_succ s 3 3 1 ((s.getD 0 0).toNat - 224)
 have L2 := oneL_succ s 3 2 2
 have L3 := oneL_succ s 3 1 3
 generalize (s.getD 0 0).toNat = b0 at *
 have hb1 := (s.getD 1 0).toNat_lt
 generalize (s.getD 1 0).toNat = b1 at *
 have hb2 := (s.getD 2 0).toNat_lt
 generalize (s.getD 2 0).toNat = b2 at *
 generalize (s.getD 3 0).toNat = b3 at *
 obtain ⟨b, rfl⟩ : ∃ b, b0 = b + 224 := ⟨b0 - 224, by omega⟩
 rw [Nat.add_sub_cancel] at *
 have c1 := beg13 (b := b) (by omega)
 by_cases c2 : 1 < s.length ∧ 128 ≤ b1 ∧ b1 < 192
 ·have e2 := beg23 (v := b * 64 + b1 - 128) (by omega)
  obtain ⟨v1, hv1⟩ : ∃ v1, v1 = b * 64 + b1 - 128 := ⟨_, rfl⟩
  rw [← hv1] at L1 e2
  by_cases c3 : begV v1 2 3 = true
  ·have c3' := e2.1 c3
   rw [if_pos ⟨by decide, c2.1, c2.2.1, c2.2.2, c3⟩, L2] at L1
   by_cases c4 : 2 < s.length ∧ 128 ≤ b2 ∧ b2 < 192
   ·obtain ⟨v2, hv2⟩ : ∃ v2, v2 = v1 * 64 + b2 - 128 := ⟨_, rfl⟩
    rw [← hv2] at L1
    have v : begV v2 3 3 = true := (beg33 v2).2 (by omega)
    rw [if_pos ⟨by decide, c4.1, c4.2.1, c4.2.2, v⟩, L3, if_neg (by rintro ⟨h, _⟩; omega)] at L1
    rw [oneT_of (by decide) c1 L1, if_neg (by decide)]
    have hd : decodeN s.length (b + 224) b1 b2 b3 = (v2, 3) := by
     unfold decodeN
     rw [if_neg (by omega), if_neg (by omega), if_pos ⟨by omega, ⟨c2.1, by omega⟩, c4.1, by omega⟩, if_pos (by omega)]
     rw [Prod.mk.injEq]
     exact ⟨by omega, rfl⟩
    rw [hd]
    exact oneOk_good (by decide)
   ·rw [if_neg (by rintro ⟨_, x, y, z, _⟩; exact c4 ⟨x, y, z⟩)] at L1
    rw [oneT_of (by decide) c1 L1, if_pos (by decide)]
    have hd : decodeN s.length (b + 224) b1 b2 b3 = (65533, 1) := by
     unfold decodeN
     rw [if_neg (by omega), if_neg (by omega), if_neg (by omega), if_neg (by omega)]
    rw [hd]
    exact oneOk_bad (by decide) (by omega)
  ·have c3' : ¬ (32 ≤ v1 ∧ ¬ (864 ≤ v1 ∧ v1 ≤ 895)) := fun q => c3 (e2.2 q)
   rw [if_neg (by rintro ⟨_, _, _, _, q⟩; exact c3 q)] at L1
   rw [oneT_of (by decide) c1 L1, if_pos (by decide)]
   have hd : decodeN s.length (b + 224) b1 b2 b3 = (65533, 1) := by
    unfold decodeN
    rw [if_neg (by omega), if_neg (by omega)]
    by_cases q : (b + 224) / 16 = 14 ∧ (1 < s.length ∧ b1 / 64 = 2) ∧ (2 < s.length ∧ b2 / 64 = 2)
    ·rw [if_pos q, if_neg (by omega)]
    ·rw [if_neg q, if_neg (by omega)]
   rw [hd]
   exact oneOk_bad (by decide) hs
 ·rw [if_neg (by rintro ⟨_, x, y, z, _⟩; exact c2 ⟨x, y, z⟩)] at L1
  rw [oneT_of (by decide) c1 L1, if_pos (by decide)]
  have hd : decodeN s.length (b + 224) b1 b2 b3 = (65533, 1) := by
   unfold decodeN
   rw [if_neg (by omega), if_neg (by omega), if_neg (by omega), if_neg (by omega)]
  rw [hd]
  exact oneOk_bad (by decide) hs
theorem one_dec4 (s : List UInt8) (h0 : 240 ≤ (s.getD 0 0).toNat) (h1 : (s.getD 0 0).toNat < 248) (hs : 0 < s.length) : oneOk s.length (decodeL s) (oneT s 4 ((s.getD 0 0).toNat - 240)) := by
 rw [decodeL_N]
 have L1 := oneL_succ s 4 3 1 ((s.getD 0 0).toNat - 240)
 have L2 := oneL_succ s 4 2 2
 have L3 := oneL_succ s 4 1 3
 have L4 := oneL_succ s 4 0 4
 generalize (s.getD 0 0).toNat = b0 at *
 have hb1 := (s.getD 1 0).toNat_lt
 generalize (s.getD 1 0).toNat = b1 at *
 have hb2 := (s.getD 2 0).toNat_lt
 generalize (s.getD 2 0).toNat = b2 at *
 have hb3 := (s.getD 3 0).toNat_lt
 generalize (s.getD 3 0).toNat = b3 at *
 obtain ⟨b, rfl⟩ : ∃ b, b0 = b + 240 := ⟨b0 - 240, by omega⟩
 rw [Nat.add_sub_cancel] at *
 have e1 := beg14 (b := b) (by omega)
 have hbad : ∀ (_ : ¬ ((b + 240) / 8 = 30 ∧ (1 < s.length ∧ b1 / 64 = 2) ∧ (2 < s.length ∧ b2 / 64 = 2) ∧ (3 < s.length ∧ b3 / 64 = 2) ∧ 65536 ≤ (b + 240) % 8 * 262144 + b1 % 64 * 4096 + b2 % 64 * 64 + b3 % 64 ∧ (b + 240) % 8 * 262144 + b1 % 64 * 4096 + b2 % 64 * 64 + b3 % 64 ≤ 1114111)), decodeN s.length (b + 240) b1 b2 b3 = (65533, 1) := fun hn => by
  unfold decodeN
  rw [if_neg (by omega), if_neg (by omega), if_neg (by omega)]
  by_cases q : (b + 240) / 8 = 30 ∧ (1 < s.length ∧ b1 / 64 = 2) ∧ (2 < s.length ∧ b2 / 64 = 2) ∧ (3 < s.length ∧ b3 / 64 = 2)
  ·rw [if_pos q, if_neg (by omega)]
  ·rw [if_neg q]
 by_cases c1 : begV b 1 4 = true
 ·have c1' := e1.1 c1
  by_cases c2 : 1 < s.length ∧ 128 ≤ b1 ∧ b1 < 192
  ·have e2 := beg24 (v := b * 64 + b1 - 128) (by omega)
   obtain ⟨v1, hv1⟩ : ∃ v1, v1 = b * 64 + b1 - 128 := ⟨_, rfl⟩
   rw [← hv1] at L1 e2
   by_cases c3 : begV v1 2 4 = true
   ·have c3' := e2.1 c3
    rw [if_pos ⟨by decide, c2.1, c2.2.1, c2.2.2, c3⟩, L2] at L1
    by_cases c4 : 2 < s.length ∧ 128 ≤ b2 ∧ b2 < 192
    ·obtain ⟨v2, hv2⟩ : ∃ v2, v2 = v1 * 64 + b2 - 128 := ⟨_, rfl⟩
     rw [← hv2] at L1
     have w2 : begV v2 3 4 = true := (beg34 v2 (by omega)).2 (by omega)
     rw [if_pos ⟨by decide, c4.1, c4.2.1, c4.2.2, w2⟩, L3] at L1
     by_cases c5 : 3 < s.length ∧ 128 ≤ b3 ∧ b3 < 192
     ·obtain ⟨v3, hv3⟩ : ∃ v3, v3 = v2 * 64 + b3 - 128 := ⟨_, rfl⟩
      rw [← hv3] at L1
      have w3 : begV v3 4 4 = true := (beg44 v3).2 (by omega)
      rw [if_pos ⟨by decide, c5.1, c5.2.1, c5.2.2, w3⟩] at L1
      rw [L4, if_neg (by rintro ⟨h, _⟩; omega)] at L1
      rw [oneT_of (by decide) c1 L1, if_neg (by decide)]
      have hd : decodeN s.length (b + 240) b1 b2 b3 = (v3, 4) := by
       unfold decodeN
       rw [if_neg (by omega), if_neg (by omega), if_neg (by omega), if_pos ⟨by omega, ⟨c2.1, by omega⟩, ⟨c4.1, by omega⟩, c5.1, by omega⟩, if_pos (by omega)]
       rw [Prod.mk.injEq]
       exact ⟨by omega, rfl⟩
      rw [hd]
      exact oneOk_good (by decide)
     ·rw [if_neg (by rintro ⟨_, x, y, z, _⟩; exact c5 ⟨x, y, z⟩)] at L1
      rw [oneT_of (by decide) c1 L1, if_pos (by decide), hbad (by omega)]
      exact oneOk_bad (by decide) (by omega)
    ·rw [if_neg (by rintro ⟨_, x, y, z, _⟩; exact c4 ⟨x, y, z⟩)] at L1
     rw [oneT_of (by decide) c1 L1, if_pos (by decide), hbad (by omega)]
     exact oneOk_bad (by decide) (by omega)
   ·have c3' : ¬ (16 ≤ v1 ∧ v1 ≤ 271) := fun q => c3 (e2.2 q)
    rw [if_neg (by rintro ⟨_, _, _, _, q⟩; exact c3 q)] at L1
    rw [oneT_of (by decide) c1 L1, if_pos (by decide), hbad (by omega)]
    exact oneOk_bad (by decide) hs
  ·rw [if_neg (by rintro ⟨_, x, y, z, _⟩; exact c2 ⟨x, y, z⟩)] at L1
   rw [oneT_of (by decide) c1 L1, if_pos (by decide), hbad (by omega)]
   exact oneOk_bad (by decide) hs
 ·have c1' : ¬ b ≤ 4 := fun q => c1 (e1.2 q)
  rw [oneT_bad (by simpa using c1), hbad (by omega)]
  exact oneOk_bad (by decide) hs
theorem one_dec (s : List UInt8) (hs : 0 < s.length) : oneOk s.length (decodeL s) (oneR s) := by
 unfold oneR
 have hb := (s.getD 0 0).toNat_lt
 by_cases h0 : (s.getD 0 0).toNat < 128
 ·rw [if_pos h0, decodeL_N]
  unfold decodeN
  rw [if_pos h0]
  generalize (s.getD 0 0).toNat = b0 at *
  unfold oneOk
  rw [if_neg (by simp only; omega)]
 ·rw [if_neg h0]
  unfold oneH
  by_cases h1 : 192 ≤ (s.getD 0 0).toNat ∧ (s.getD 0 0).toNat < 224
  ·rw [if_pos h1]; exact one_dec2 s h1.1 h1.2 hs
  rw [if_neg h1]
  by_cases h2 : 224 ≤ (s.getD 0 0).toNat ∧ (s.getD 0 0).toNat < 240
  ·rw [if_pos h2]; exact one_dec3 s h2.1 h2.2 hs
  rw [if_neg h2]
  by_cases h3 : 240 ≤ (s.getD 0 0).toNat ∧ (s.getD 0 0).toNat < 248
  ·rw [if_pos h3]; exact one_dec4 s h3.1 h3.2 hs
  rw [if_neg h3]
  have e : oneT s 0 0 = (1, -1) := by unfold oneT; rw [if_pos (.inl rfl)]
  rw [e, decodeL_N]
  generalize (s.getD 0 0).toNat = b0 at *
  have hd : decodeN s.length b0 (s.getD 1 0).toNat (s.getD 2 0).toNat (s.getD 3 0).toNat = (65533, 1) := by
   unfold decodeN
   rw [if_neg h0, if_neg (by omega), if_neg (by omega), if_neg (by omega)]
  rw [hd]
  exact oneOk_bad (by decide) hs
end Go.Js
namespace Go.Proofs.YtkgmecjaejaehaaGreatDoor
open Go.Eng Go.Js
set_option maxRecDepth 20000
attribute [local irreducible] AG CallA CallT AWp PCall ACall XCall AgC
abbrev cP (p : Bs × Int) : List D := [dS p.1, dI p.2]
structure PaS where
 u : Bs
 L : List (Bs × Int)
 g : Nat
def paInv (s : Bs) (y : PaS) : Prop := y.L.length + y.u.length ≤ s.length ∧ (((∀ p ∈ y.L, 0 ≤ p.2) ∧ Lib.validD y.u = true) ↔ Lib.validD s = true)
theorem one_step (u : Bs) (hu : 0 < u.length) : ∃ (n : Nat) (c : Int), oneR u = (n, c) ∧ 1 ≤ n ∧ n ≤ u.length ∧ InR c ∧ ((0 ≤ c ∧ Lib.validD (u.drop n) = true) ↔ Lib.validD u = true) := by
 have h := one_dec u hu
 have hne : u ≠ [] := fun q => by subst q; simp at hu
 have hs := Lib.validD_step u hne
 have hw := Lib.decodeL_width u
 have hl := Lib.decodeL_le u hne
 have hr := Lib.decodeL_rune u
 generalize hR : oneR u = R at *
 generalize Lib.decodeL u = d at *
 obtain ⟨n, c⟩ := R
 unfold oneOk at h
 by_cases q : d.1 = 65533 ∧ d.2 = 1
 ·rw [if_pos q] at h hs
  simp only at h
  refine ⟨n, c, rfl, h.2.1, h.2.2, by unfold InR; omega, ?_⟩
  rw [hs]
  constructor
  ·rintro ⟨x, _⟩; omega
  ·intro x; cases x
 ·rw [if_neg q] at h hs
  simp only [Prod.mk.injEq] at h
  obtain ⟨rfl, rfl⟩ := h
  refine ⟨d.2, d.1, rfl, hw, hl, by unfold InR; omega, ?_⟩
  rw [hs]
  constructor
  ·rintro ⟨_, x⟩; exact x
  ·intro x; exact ⟨by omega, x⟩
set_option maxHeartbeats 8000000 in
theorem parts_spec (s : Bs) (hl : s.length ≤ 1000000) : PCall Tryz.prog 92 [dS s, dI 2] fun r => ∃ L : List (Bs × Int), (L.length ≤ 1000000 ∧ ((∀ p ∈ L, 0 ≤ p.2) ↔ Lib.validD s = true)) ∧ r = .sl 2 (L.map cP) := by
 refine pcall_of Tryz.func92 rfl rfl Tryz.ntmps92 (rs := [.tmp 4]) (tys := [138]) rfl rfl (by simp) ?_
 (refine awp_sr fun Y Yh => ?_; simp [go_sem]; ((repeat' (first|(refine ag_x ?_;simp [go_sem])|intro _|apply And.intro|(apply Yh;clear Yh Y)));all_goals first|apply Hold.mk|omega|with_reducible assumption|skip))
 (refine awp_sr fun Y Yh => ?_; simp [go_sem]; ((repeat' (first|(refine ag_x ?_;simp [go_sem])|intro _|apply And.intro|(apply Yh;clear Yh Y)));all_goals first|apply Hold.mk|omega|with_reducible assumption|skip))
 refine awp_nilslot 5 30 141 2 rfl fun g0 => ?_
 simp only [go_sem]
 refine awp_seq_k fun K1 hK1 => ?_
 refine awp_block ?_
 refine awp_loop (σ := PaS) (fun y => ⟨[(0, dS y.u), (1, dI 2), (5, .own 30 y.g)], [(30, (y.g, .row 141 2 (y.L.map cP)))]⟩) (paInv s) (fun y => y.u.length) ⟨s, [], g0⟩ ?_ ?_ ?_
 ·(refine cov_of ?_ ?_ <;> simp [go_sem])
 ·exact ⟨by simp, by simp⟩
 rintro ⟨u, L, g⟩ ⟨hLu, hval⟩
 simp only at hLu hval ⊢
 refine awp_seq_k fun K2 hK2 => ?_
 (refine awp_sr fun Y Yh => ?_; simp [go_sem]; ((repeat' (first|(refine ag_x ?_;simp [go_sem])|intro _|apply And.intro|(apply Yh;clear Yh Y)));all_goals first|apply Hold.mk|omega|with_reducible assumption|skip))
 by_cases h : 0 < u.length
 ·have h' : (0 : Int) < u.length := by omega
  have hne : u ≠ [] := fun q => by subst q; simp at h
  obtain ⟨n, c, hR, hn1, hnu, hcR, hst⟩ := one_step u h
  have HO := one_spec u h
  rw [hR] at HO
  obtain ⟨c0, hg0⟩ : ∃ c0, u[0]? = some c0 := ⟨_, List.getElem?_eq_getElem h⟩
  have hcb : (c0.toNat : Int) ≤ 9223372036854775807 := by have := c0.toNat_lt; omega
  have hnu' : (n : Int) ≤ u.length := by omega
  (refine awp_if fun T F hT hF => ?_; simp [go_sem, h, h', hne]; refine hT ?_; clear hT hF T F)
  refine awp_skip ?_
  refine hK2 _ ?_; clear hK2
  refine awp_block ?_
  ((refine awp_dr (.qs [0, 1, 2, 3, 4] (.nil)) (by kernel_rfl) ?_ ?_ ?_ ?_); (kernel_rfl); (exact (by decide +kernel)); (kernel_rfl); intro Y Yh; ((repeat' (first|(refine ag_x ?_;simp [go_sem, hg0, hcb])|refine adr_nil ?_|((first|refine adr_qs fun Y Yh=>?_|refine adr_y fun Y Yh=>?_);simp [go_sem, hg0, hcb])|intro _|apply And.intro|(apply Yh;clear Yh Y)));all_goals first|apply Hold.mk|omega|with_reducible assumption|skip))
  refine awp_seq_k fun K4 hK4 => ?_
  (refine awp_sr fun Y Yh => ?_; simp [go_sem]; ((repeat' (first|(refine ag_x ?_;simp [go_sem])|intro _|apply And.intro|(apply Yh;clear Yh Y)));all_goals first|apply Hold.mk|omega|with_reducible assumption|skip))
  (refine awp_if fun T F hT hF => ?_; simp [go_sem]; refine hT ?_; clear hT hF T F)
  (refine awp_r fun Y Yh => ?_; simp [go_sem]; ((repeat' (first|(refine ag_x ?_;simp [go_sem])|intro _|apply And.intro|(apply Yh;clear Yh Y)));all_goals first|apply Hold.mk|omega|with_reducible assumption|skip))
  ((try refine CallT.toA ?_); refine callT_m (by first|exact .inl ⟨rfl,rfl⟩|exact .inr rfl) (by simp [go_sem]) ?_; intro args ha; simp [go_sem] at ha; subst ha; refine ⟨_, HO, ?_⟩; rintro _ rfl; simp [go_sem]; ((repeat' (first|(refine ag_x ?_;simp [go_sem])|intro _|apply And.intro|(apply Yh;clear Yh Y)));all_goals first|apply Hold.mk|omega|with_reducible assumption|skip))
  refine hK4 _ ?_; clear hK4
  refine awp_seq_k fun K5 hK5 => ?_
  (refine awp_sr fun Y Yh => ?_; simp [go_sem]; ((repeat' (first|(refine ag_false ?_ ?_ ?_;(focus (simp [go_sem, undef];done));(focus (simp [go_sem];done));simp [go_sem])|(refine ag_x ?_;simp [go_sem, undef])|intro _|apply And.intro|(apply Yh;clear Yh Y)));all_goals first|apply Hold.mk|omega|with_reducible assumption|skip))
  (refine awp_if fun T F hT hF => ?_; simp [go_sem]; refine hF ?_; clear hT hF T F)
  refine awp_skip ?_
  refine hK5 _ ?_; clear hK5
  have hcut : (ByteArray.mk u.toArray).extract 0 n = ⟨(u.take n).toArray⟩ := by rw [ba_cut]; simp
  have hll : (L.map cP).length ≤ 1000000 := by simp; omega
  (refine awp_sr fun Y Yh => ?_; simp [go_sem, hcut, hnu, hnu']; ((repeat' (first|(refine ag_x ?_;simp [go_sem, hcut, hnu, hnu'])|intro _|apply And.intro|(apply Yh;clear Yh Y)));all_goals first|apply Hold.mk|omega|with_reducible assumption|skip))
  (refine awp_r fun Y Yh => ?_; simp [go_sem, hnu, hnu']; ((repeat' (first|(refine ag_x ?_;simp [go_sem, hnu, hnu'])|intro _|apply And.intro|(apply Yh;clear Yh Y)));all_goals first|apply Hold.mk|omega|with_reducible assumption|skip))
  rename_i gz g2
  refine ⟨⟨u.drop n, L ++ [(u.take n, c)], g2⟩, ?_, ⟨?_, ?_⟩, ?_⟩
  ·(refine cov_of ?_ ?_ <;> simp [go_sem])
  ·simp only [List.length_append, List.length_cons, List.length_nil, List.length_drop]; omega
  ·simp only
   rw [← hval, ← hst]
   constructor
   ·rintro ⟨q1, q2⟩
    exact ⟨fun p hp => q1 p (List.mem_append_left _ hp), q1 (u.take n, c) (by simp), q2⟩
   ·rintro ⟨q1, q2, q3⟩
    refine ⟨fun p hp => ?_, q3⟩
    rcases List.mem_append.1 hp with hp | hp
    ·exact q1 p hp
    ·rw [List.mem_singleton.1 hp]; exact q2
  ·simp only [List.length_drop]; omega
 ·have h' : ¬ (0 : Int) < u.length := by omega
  have hnil : u = [] := List.eq_nil_of_length_eq_zero (by omega)
  (refine awp_if fun T F hT hF => ?_; simp [go_sem, h, h', hnil]; refine hF ?_; clear hT hF T F)
  refine awp_exit ?_
  simp only [go_sem]
  refine hK1 _ ?_; clear hK1
  subst hnil
  (refine awp_sr fun Y Yh => ?_; simp [go_sem]; ((repeat' (first|(refine ag_x ?_;simp [go_sem])|intro _|apply And.intro|(apply Yh;clear Yh Y)));all_goals first|apply Hold.mk|omega|with_reducible assumption|skip))
  (refine awp_ret ?_; simp [go_sem])
  exact ⟨L, ⟨by omega, by rw [← hval]; simp [Lib.validD_nil]⟩, rfl⟩
theorem utf_spec (s : Bs) (hl : s.length ≤ 1000000) : PCall Tryz.prog 46 [dS s] fun r => r = dB (Lib.validD s) := by
 refine pcall_of Tryz.func46 rfl rfl Tryz.ntmps46 (rs := [.tmp 2]) (tys := [4]) rfl rfl (by simp) ?_
 (refine awp_sr fun Y Yh => ?_; simp [go_sem]; ((repeat' (first|(refine ag_x ?_;simp [go_sem])|intro _|apply And.intro|(apply Yh;clear Yh Y)));all_goals first|apply Hold.mk|omega|with_reducible assumption|skip))
 (refine awp_sr fun Y Yh => ?_; simp [go_sem]; ((repeat' (first|(refine ag_x ?_;simp [go_sem])|intro _|apply And.intro|(apply Yh;clear Yh Y)));all_goals first|apply Hold.mk|omega|with_reducible assumption|skip))
 ((try refine CallT.toA ?_); refine callT_m (by first|exact .inl ⟨rfl,rfl⟩|exact .inr rfl) (by simp [go_sem]) ?_; intro args ha; simp [go_sem] at ha; subst ha; refine ⟨_, (parts_spec s hl), ?_⟩; rintro _ ⟨L, ⟨hLl, hLv⟩, rfl⟩; simp [go_sem]; ((repeat' (first|(refine ag_x ?_;simp [go_sem])|intro _|apply And.intro|(apply Yh;clear Yh Y)));all_goals first|apply Hold.mk|omega|with_reducible assumption|skip))
 refine awp_seq_k fun K1 hK1 => ?_
 (refine awp_sr fun Y Yh => ?_; simp [go_sem]; ((repeat' (first|(refine ag_x ?_;simp [go_sem])|intro _|apply And.intro|(apply Yh;clear Yh Y)));all_goals first|apply Hold.mk|omega|with_reducible assumption|skip))
 refine awp_block ?_
 refine awp_loop (σ := Nat) (fun i => ⟨[(2, dB false), (3, .sl 2 (L.map cP)), (4, dI i)], []⟩) (fun i => i ≤ L.length ∧ ∀ p ∈ L.take i, 0 ≤ p.2) (fun i => L.length - i) 0 (by (refine cov_of ?_ ?_ <;> simp [go_sem])) (by simp) ?_
 rintro i ⟨hi, hall⟩
 refine awp_seq_k fun K2 hK2 => ?_
 (refine awp_sr fun Y Yh => ?_; simp [go_sem]; ((repeat' (first|(refine ag_x ?_;simp [go_sem])|intro _|apply And.intro|(apply Yh;clear Yh Y)));all_goals first|apply Hold.mk|omega|with_reducible assumption|skip))
 by_cases h : i < L.length
 ·have hg : L[i]? = some L[i] := List.getElem?_eq_getElem h
  have hm := List.getElem_mem h
  have htk : L.take (i + 1) = L.take i ++ [L[i]] := List.take_succ_eq_append_getElem h
  obtain ⟨t, c, hx⟩ : ∃ t c, L[i] = (t, c) := ⟨_, _, rfl⟩
  rw [hx] at hg hm htk
  (refine awp_if fun T F hT hF => ?_; simp [go_sem, h]; refine hT ?_; clear hT hF T F)
  refine awp_skip ?_
  refine hK2 _ ?_; clear hK2
  refine awp_seq_k fun K4 hK4 => ?_
  refine awp_block ?_
  (refine awp_sr fun Y Yh => ?_; simp [go_sem, h, hx]; ((repeat' (first|(refine ag_x ?_;simp [go_sem, h, hx])|intro _|apply And.intro|(apply Yh;clear Yh Y)));all_goals first|apply Hold.mk|omega|with_reducible assumption|skip))
  by_cases hc : c < 0
  ·(refine awp_if fun T F hT hF => ?_; simp [go_sem, hc]; refine hT ?_; clear hT hF T F)
   (refine awp_sr fun Y Yh => ?_; simp [go_sem]; ((repeat' (first|(refine ag_x ?_;simp [go_sem])|intro _|apply And.intro|(apply Yh;clear Yh Y)));all_goals first|apply Hold.mk|omega|with_reducible assumption|skip))
   have hf : Lib.validD s = false := by
    rw [Bool.eq_false_iff]
    intro q
    have := hLv.2 q (t, c) hm
    simp only at this
    omega
   rw [hf]
   (refine awp_ret ?_; simp [go_sem])
  ·(refine awp_if fun T F hT hF => ?_; simp [go_sem, hc]; refine hF ?_; clear hT hF T F)
   refine awp_skip ?_
   refine hK4 _ ?_; clear hK4
   (refine awp_r fun Y Yh => ?_; simp [go_sem]; ((repeat' (first|(refine ag_x ?_;simp [go_sem])|intro _|apply And.intro|(apply Yh;clear Yh Y)));all_goals first|apply Hold.mk|omega|with_reducible assumption|skip))
   refine ⟨i + 1, ?_, ⟨by omega, ?_⟩, by omega⟩
   ·(refine cov_of ?_ ?_ <;> simp [go_sem])
   ·rw [htk]
    intro p hp
    rcases List.mem_append.1 hp with hp | hp
    ·exact hall p hp
    ·rw [List.mem_singleton.1 hp]; simp only; omega
 ·(refine awp_if fun T F hT hF => ?_; simp [go_sem, h]; refine hF ?_; clear hT hF T F)
  refine awp_exit ?_
  simp only [go_sem]
  refine hK1 _ ?_; clear hK1
  obtain rfl : i = L.length := by omega
  rw [List.take_length] at hall
  rw [hLv.1 hall]
  (refine awp_sr fun Y Yh => ?_; simp [go_sem]; ((repeat' (first|(refine ag_x ?_;simp [go_sem])|intro _|apply And.intro|(apply Yh;clear Yh Y)));all_goals first|apply Hold.mk|omega|with_reducible assumption|skip))
  (refine awp_ret ?_; simp [go_sem])
theorem hex_cut {n : Nat} (h : n < 16) : (ByteArray.mk #[48, 49, 50, 51, 52, 53, 54, 55, 56, 57, 97, 98, 99, 100, 101, 102]).extract n (n + 1) = ⟨#[hexC n]⟩ := by
 have e : ∀ n < 16, (ByteArray.mk #[48, 49, 50, 51, 52, 53, 54, 55, 56, 57, 97, 98, 99, 100, 101, 102]).extract n (n + 1) = ⟨#[hexC n]⟩ := by decide +kernel
 exact e n h
theorem two_cut {n : Nat} (h : n < 2) : (ByteArray.mk #[48, 49]).extract n (n + 1) = ⟨#[hexC n]⟩ := by
 have e : ∀ n < 2, (ByteArray.mk #[48, 49]).extract n (n + 1) = ⟨#[hexC n]⟩ := by decide +kernel
 exact e n h
set_option maxHeartbeats 8000000 in
theorem quoted_spec (s : Bs) (hl : s.length ≤ 1000000) : PCall Tryz.prog 47 [dS s] fun r => r = dS (quoteV s) := by
 refine pcall_of Tryz.func47 rfl rfl Tryz.ntmps47 (rs := [.tmp 2]) (tys := [9]) rfl rfl (by simp) ?_
 (refine awp_sr fun Y Yh => ?_; simp [go_sem]; ((repeat' (first|(refine ag_x ?_;simp [go_sem])|intro _|apply And.intro|(apply Yh;clear Yh Y)));all_goals first|apply Hold.mk|omega|with_reducible assumption|skip))
 (refine awp_sr fun Y Yh => ?_; simp [go_sem]; ((repeat' (first|(refine ag_x ?_;simp [go_sem])|intro _|apply And.intro|(apply Yh;clear Yh Y)));all_goals first|apply Hold.mk|omega|with_reducible assumption|skip))
 refine awp_seq_k fun K1 hK1 => ?_
 (refine awp_sr fun Y Yh => ?_; simp [go_sem]; ((repeat' (first|(refine ag_x ?_;simp [go_sem])|intro _|apply And.intro|(apply Yh;clear Yh Y)));all_goals first|apply Hold.mk|omega|with_reducible assumption|skip))
 refine awp_block ?_
 refine awp_loop (σ := Nat) (fun i => ⟨[(0, dS s), (3, dS (34 :: qBs (s.take i))), (4, dI i)], []⟩) (fun i => i ≤ s.length) (fun i => s.length - i) 0 ?_ (by simp) ?_
 ·(refine cov_of ?_ ?_ <;> simp [go_sem, qBs_nil])
 intro i hi
 have hql := qBs_len (s.take i)
 have hti : (s.take i).length ≤ 1000000 := by simp; omega
 refine awp_seq_k fun K2 hK2 => ?_
 (refine awp_sr fun Y Yh => ?_; simp [go_sem]; ((repeat' (first|(refine ag_x ?_;simp [go_sem])|intro _|apply And.intro|(apply Yh;clear Yh Y)));all_goals first|apply Hold.mk|omega|with_reducible assumption|skip))
 by_cases h : i < s.length
 ·obtain ⟨c, hg⟩ : ∃ c, s[i]? = some c := ⟨_, List.getElem?_eq_getElem h⟩
  have hst := qBs_take hg
  have hcs := qB_cases c
  have hii : (i : Int) + 1 ≤ s.length := by omega
  have hcut1 : (ByteArray.mk s.toArray).extract i (i + 1) = ⟨#[c]⟩ := by
   rw [ba_cut, Nat.add_sub_cancel_left]
   have : (s.drop i).take 1 = [c] := by
    rw [List.take_one, List.head?_drop, hg]; rfl
   rw [this]
  (refine awp_if fun T F hT hF => ?_; simp [go_sem, h]; refine hT ?_; clear hT hF T F)
  refine awp_skip ?_
  refine hK2 _ ?_; clear hK2
  refine awp_seq_k fun K4 hK4 => ?_
  have tl4 : ∀ S', Cov S' ⟨[(0, dS s), (3, dS (34 :: qBs (s.take (i + 1)))), (4, dI i)], []⟩ → K4 S' := fun S' hS => by
   refine hK4 _ ?_; clear hK4
   refine awp_cov hS ?_; clear hS
   (refine awp_r fun Y Yh => ?_; simp [go_sem]; ((repeat' (first|(refine ag_x ?_;simp [go_sem])|intro _|apply And.intro|(apply Yh;clear Yh Y)));all_goals first|apply Hold.mk|omega|with_reducible assumption|skip))
   refine ⟨i + 1, ?_, by omega, by omega⟩
   (refine cov_of ?_ ?_ <;> simp [go_sem])
  clear hK4
  rw [hst] at tl4
  generalize hR : (34 :: qBs (s.take i) : Bs) = R at *
  have hRl : R.length ≤ 6000001 := by rw [← hR, List.length_cons]; omega
  have tl5 : ∀ S', Cov S' ⟨[(0, dS s), (3, dS (R ++ qB c)), (4, dI i)], []⟩ → K4 S' := by
   rw [← hR]; exact tl4
  clear tl4
  have HI := idxB_spec [34, 92, 8, 12, 10, 13, 9] c
  refine awp_block ?_
  (refine awp_sr fun Y Yh => ?_; simp [go_sem, hg]; ((repeat' (first|(refine ag_x ?_;simp [go_sem, hg])|intro _|apply And.intro|(apply Yh;clear Yh Y)));all_goals first|apply Hold.mk|omega|with_reducible assumption|skip))
  (refine awp_sr fun Y Yh => ?_; simp [go_sem]; ((repeat' (first|(refine ag_x ?_;simp [go_sem])|intro _|apply And.intro|(apply Yh;clear Yh Y)));all_goals first|apply Hold.mk|omega|with_reducible assumption|skip))
  ((try refine CallT.toA ?_); refine callT_m (by first|exact .inl ⟨rfl,rfl⟩|exact .inr rfl) (by simp [go_sem]) ?_; intro args ha; simp [go_sem] at ha; subst ha; refine ⟨_, HI, ?_⟩; rintro _ rfl; simp [go_sem]; ((repeat' (first|(refine ag_x ?_;simp [go_sem])|intro _|apply And.intro|(apply Yh;clear Yh Y)));all_goals first|apply Hold.mk|omega|with_reducible assumption|skip))
  refine awp_block ?_
  (refine awp_sr fun Y Yh => ?_; simp [go_sem]; ((repeat' (first|(refine ag_x ?_;simp [go_sem])|intro _|apply And.intro|(apply Yh;clear Yh Y)));all_goals first|apply Hold.mk|omega|with_reducible assumption|skip))
  rcases hcs with ⟨j, hj, hij, hqj⟩ | ⟨hij, hlo, hhi⟩
  ·rw [hij] at *
   (refine awp_if fun T F hT hF => ?_; simp [go_sem]; refine hT ?_; clear hT hF T F)
   rw [hqj] at tl5
   have hj7 : (j : Int) + 1 ≤ 7 := by omega
   have hct := spc_cut j
   have hzl : ((spcE.drop j).take 1).length ≤ 1 := by simp; omega
   generalize (spcE.drop j).take 1 = z at *
   have a1 : (ByteArray.mk R.toArray) ++ (ByteArray.mk #[92]) = ⟨(R ++ [92]).toArray⟩ := ba_app2 R [92]
   have a2 := ba_app2 (R ++ [92]) z
   have a3 : R ++ [92] ++ z = R ++ 92 :: z := by simp
   rw [a3] at a2
   have hl1 : (R ++ [92]).length = R.length + 1 := by simp
   generalize R ++ 92 :: z = R2 at *
   generalize R ++ [92] = R1 at *
   (refine awp_r fun Y Yh => ?_; simp [go_sem, hct, a1, a2, hj7]; ((repeat' (first|(refine ag_x ?_;simp [go_sem, hct, a1, a2, hj7])|intro _|apply And.intro|(apply Yh;clear Yh Y)));all_goals first|apply Hold.mk|omega|with_reducible assumption|skip))
   refine tl5 _ ?_
   (refine cov_of ?_ ?_ <;> simp [go_sem])
  ·rw [hij] at *
   (refine awp_if fun T F hT hF => ?_; simp [go_sem]; refine hF ?_; clear hT hF T F)
   (refine awp_sr fun Y Yh => ?_; simp [go_sem]; ((repeat' (first|(refine ag_x ?_;simp [go_sem])|intro _|apply And.intro|(apply Yh;clear Yh Y)));all_goals first|apply Hold.mk|omega|with_reducible assumption|skip))
   have hcI : (c.toNat : Int) < 32 ↔ c < 32 := by
    rw [UInt8.lt_iff_toNat_lt]
    have : (32 : UInt8).toNat = 32 := rfl
    omega
   by_cases hc32 : c < 32
   ·have hc32' := hcI.2 hc32
    (refine awp_if fun T F hT hF => ?_; simp [go_sem, hc32']; refine hT ?_; clear hT hF T F)
    have hq1 := hlo hc32
    rw [hq1] at tl5
    have hcn : c.toNat < 32 := by omega
    have hw1 : IntKind.u8.wrap ((c.toNat : Int) / 16) = (c.toNat : Int) / 16 := by rw [IntKind.wrap_u8]; omega
    have hw2 : (c.toNat : Int).tmod 16 = (c.toNat : Int) % 16 := Int.tmod_eq_emod_of_nonneg (by omega)
    have hw3 : IntKind.u8.wrap ((c.toNat : Int) / 16 + 1) = (c.toNat : Int) / 16 + 1 := by rw [IntKind.wrap_u8]; omega
    have hw4 : IntKind.u8.wrap ((c.toNat : Int) % 16 + 1) = (c.toNat : Int) % 16 + 1 := by rw [IntKind.wrap_u8]; omega
    have hn1 : 0 ≤ (c.toNat : Int) / 16 := by omega
    have hn2 : 0 ≤ (c.toNat : Int) % 16 := by omega
    have ht1 : ((c.toNat : Int) / 16).toNat = c.toNat / 16 := by omega
    have ht2 : ((c.toNat : Int) % 16).toNat = c.toNat % 16 := by omega
    have hu1 := two_cut (show c.toNat / 16 < 2 by omega)
    have hu2 := hex_cut (show c.toNat % 16 < 16 by omega)
    have ht3 : ((c.toNat : Int) / 16 + 1).toNat = c.toNat / 16 + 1 := by omega
    have ht4 : ((c.toNat : Int) % 16 + 1).toNat = c.toNat % 16 + 1 := by omega
    have e1 : (ByteArray.mk R.toArray) ++ (ByteArray.mk #[92, 117, 48, 48]) ++ (ByteArray.mk #[hexC (c.toNat / 16)]) ++ (ByteArray.mk #[hexC (c.toNat % 16)]) = ⟨(R ++ [92, 117, 48, 48, hexC (c.toNat / 16), hexC (c.toNat % 16)]).toArray⟩ := by
     rw [show (ByteArray.mk #[92, 117, 48, 48]) = ⟨([92, 117, 48, 48] : Bs).toArray⟩ from rfl, show (ByteArray.mk #[hexC (c.toNat / 16)]) = ⟨([hexC (c.toNat / 16)] : Bs).toArray⟩ from rfl, show (ByteArray.mk #[hexC (c.toNat % 16)]) = ⟨([hexC (c.toNat % 16)] : Bs).toArray⟩ from rfl, ba_app2, ba_app2, ba_app2]
     simp
    ((refine awp_d (.qs [0, 1, 2, 3, 4, 5, 6, 7, 8, 9, 10, 11, 12, 13, 14, 15, 16] (.nil)) (by kernel_rfl) ?_ ?_ ?_ ?_); (kernel_rfl); (exact (by decide +kernel)); (kernel_rfl); intro Y Yh; ((repeat' (first|(refine ag_x ?_;simp [go_sem, hw1, hw2, hw3, hw4, ht1, ht2, ht3, ht4, hn1, hn2, hu1, hu2, e1])|refine adr_nil ?_|((first|refine adr_qs fun Y Yh=>?_|refine adr_y fun Y Yh=>?_);simp [go_sem, hw1, hw2, hw3, hw4, ht1, ht2, ht3, ht4, hn1, hn2, hu1, hu2, e1])|intro _|apply And.intro|(apply Yh;clear Yh Y)));all_goals first|apply Hold.mk|omega|with_reducible assumption|skip))
    refine tl5 _ ?_
    (refine cov_of ?_ ?_ <;> simp [go_sem])
   ·have hc32' : ¬ (c.toNat : Int) < 32 := fun q => hc32 (hcI.1 q)
    have hq1 := hhi hc32
    rw [hq1] at tl5
    have a1 : (ByteArray.mk R.toArray) ++ (ByteArray.mk #[c]) = ⟨(R ++ [c]).toArray⟩ := ba_app2 R [c]
    generalize R ++ [c] = R1 at *
    (refine awp_if fun T F hT hF => ?_; simp [go_sem, hc32']; refine hF ?_; clear hT hF T F)
    (refine awp_r fun Y Yh => ?_; simp [go_sem, hcut1, hii, h, a1]; ((repeat' (first|(refine ag_x ?_;simp [go_sem, hcut1, hii, h, a1])|intro _|apply And.intro|(apply Yh;clear Yh Y)));all_goals first|apply Hold.mk|omega|with_reducible assumption|skip))
    refine tl5 _ ?_
    (refine cov_of ?_ ?_ <;> simp [go_sem])
 ·(refine awp_if fun T F hT hF => ?_; simp [go_sem, h]; refine hF ?_; clear hT hF T F)
  refine awp_exit ?_
  simp only [go_sem]
  refine hK1 _ ?_; clear hK1
  obtain rfl : i = s.length := by omega
  have hq2 := qBs_len s
  have hap := ba_app2 (34 :: qBs s) [34]
  have hqv : 34 :: qBs s ++ [34] = quoteV s := rfl
  rw [hqv] at hap
  rw [List.take_length]
  generalize hX : (34 :: qBs s : Bs) = X at *
  have hXl : X.length ≤ 6000001 := by rw [← hX, List.length_cons]; omega
  generalize quoteV s = Y at *
  (refine awp_sr fun Y Yh => ?_; simp [go_sem, hap]; ((repeat' (first|(refine ag_x ?_;simp [go_sem, hap])|intro _|apply And.intro|(apply Yh;clear Yh Y)));all_goals first|apply Hold.mk|omega|with_reducible assumption|skip))
  (refine awp_ret ?_; simp [go_sem])
def quoV (s : Bs) : Bs × Int := if Lib.validD s then (quoteV s, 0) else ([], 1)
theorem jquote_spec (s : Bs) (hl : s.length ≤ 1000000) : PCall Tryz.prog 18 [dS s] fun r => r = .tup [dS (quoV s).1, dI (quoV s).2] := by
 refine pcall_of Tryz.func18 rfl rfl Tryz.ntmps18 (rs := [.tmp 2, .tmp 3]) (tys := [9, 27]) rfl rfl (by simp) ?_
 unfold quoV
 (refine awp_sr fun Y Yh => ?_; simp [go_sem]; ((repeat' (first|(refine ag_x ?_;simp [go_sem])|intro _|apply And.intro|(apply Yh;clear Yh Y)));all_goals first|apply Hold.mk|omega|with_reducible assumption|skip))
 refine awp_seq_k fun K1 hK1 => ?_
 (refine awp_sr fun Y Yh => ?_; simp [go_sem]; ((repeat' (first|(refine ag_x ?_;simp [go_sem])|intro _|apply And.intro|(apply Yh;clear Yh Y)));all_goals first|apply Hold.mk|omega|with_reducible assumption|skip))
 ((try refine CallT.toA ?_); refine callT_m (by first|exact .inl ⟨rfl,rfl⟩|exact .inr rfl) (by simp [go_sem]) ?_; intro args ha; simp [go_sem] at ha; subst ha; refine ⟨_, (vstr_spec s (by omega)), ?_⟩; rintro _ rfl; simp [go_sem]; ((repeat' (first|(refine ag_x ?_;simp [go_sem])|intro _|apply And.intro|(apply Yh;clear Yh Y)));all_goals first|apply Hold.mk|omega|with_reducible assumption|skip))
 cases hv : Lib.validD s with
 | true =>
  (refine awp_if fun T F hT hF => ?_; simp [go_sem]; refine hF ?_; clear hT hF T F)
  refine awp_skip ?_
  refine hK1 _ ?_; clear hK1
  (refine awp_sr fun Y Yh => ?_; simp [go_sem]; ((repeat' (first|(refine ag_x ?_;simp [go_sem])|intro _|apply And.intro|(apply Yh;clear Yh Y)));all_goals first|apply Hold.mk|omega|with_reducible assumption|skip))
  ((try refine CallT.toA ?_); refine callT_m (by first|exact .inl ⟨rfl,rfl⟩|exact .inr rfl) (by simp [go_sem]) ?_; intro args ha; simp [go_sem] at ha; subst ha; refine ⟨_, (quote_spec s hl), ?_⟩; rintro _ rfl; simp [go_sem]; ((repeat' (first|(refine ag_x ?_;simp [go_sem])|intro _|apply And.intro|(apply Yh;clear Yh Y)));all_goals first|apply Hold.mk|omega|with_reducible assumption|skip))
  (refine awp_ret ?_; simp [go_sem, hv])
 | false =>
  (refine awp_if fun T F hT hF => ?_; simp [go_sem]; refine hT ?_; clear hT hF T F)
  (refine awp_sr fun Y Yh => ?_; simp [go_sem]; ((repeat' (first|(refine ag_x ?_;simp [go_sem])|intro _|apply And.intro|(apply Yh;clear Yh Y)));all_goals first|apply Hold.mk|omega|with_reducible assumption|skip))
  (refine awp_ret ?_; simp [go_sem, hv])
theorem rquote_spec (s : Bs) (hl : s.length ≤ 1000000) : PCall Tryz.prog 19 [dS s] fun r => r = .tup [dS (quoV s).1, dI (quoV s).2] := by
 refine pcall_of Tryz.func19 rfl rfl Tryz.ntmps19 (rs := [.tmp 2, .tmp 3]) (tys := [9, 27]) rfl rfl (by simp) ?_
 unfold quoV
 (refine awp_sr fun Y Yh => ?_; simp [go_sem]; ((repeat' (first|(refine ag_x ?_;simp [go_sem])|intro _|apply And.intro|(apply Yh;clear Yh Y)));all_goals first|apply Hold.mk|omega|with_reducible assumption|skip))
 refine awp_seq_k fun K1 hK1 => ?_
 (refine awp_sr fun Y Yh => ?_; simp [go_sem]; ((repeat' (first|(refine ag_x ?_;simp [go_sem])|intro _|apply And.intro|(apply Yh;clear Yh Y)));all_goals first|apply Hold.mk|omega|with_reducible assumption|skip))
 ((try refine CallT.toA ?_); refine callT_m (by first|exact .inl ⟨rfl,rfl⟩|exact .inr rfl) (by simp [go_sem]) ?_; intro args ha; simp [go_sem] at ha; subst ha; refine ⟨_, (utf_spec s hl), ?_⟩; rintro _ rfl; simp [go_sem]; ((repeat' (first|(refine ag_x ?_;simp [go_sem])|intro _|apply And.intro|(apply Yh;clear Yh Y)));all_goals first|apply Hold.mk|omega|with_reducible assumption|skip))
 cases hv : Lib.validD s with
 | true =>
  (refine awp_if fun T F hT hF => ?_; simp [go_sem]; refine hF ?_; clear hT hF T F)
  refine awp_skip ?_
  refine hK1 _ ?_; clear hK1
  (refine awp_sr fun Y Yh => ?_; simp [go_sem]; ((repeat' (first|(refine ag_x ?_;simp [go_sem])|intro _|apply And.intro|(apply Yh;clear Yh Y)));all_goals first|apply Hold.mk|omega|with_reducible assumption|skip))
  ((try refine CallT.toA ?_); refine callT_m (by first|exact .inl ⟨rfl,rfl⟩|exact .inr rfl) (by simp [go_sem]) ?_; intro args ha; simp [go_sem] at ha; subst ha; refine ⟨_, (quoted_spec s hl), ?_⟩; rintro _ rfl; simp [go_sem]; ((repeat' (first|(refine ag_x ?_;simp [go_sem])|intro _|apply And.intro|(apply Yh;clear Yh Y)));all_goals first|apply Hold.mk|omega|with_reducible assumption|skip))
  (refine awp_ret ?_; simp [go_sem, hv])
 | false =>
  (refine awp_if fun T F hT hF => ?_; simp [go_sem]; refine hT ?_; clear hT hF T F)
  (refine awp_sr fun Y Yh => ?_; simp [go_sem]; ((repeat' (first|(refine ag_x ?_;simp [go_sem])|intro _|apply And.intro|(apply Yh;clear Yh Y)));all_goals first|apply Hold.mk|omega|with_reducible assumption|skip))
  (refine awp_ret ?_; simp [go_sem, hv])
set_option maxHeartbeats 8000000 in
theorem quotes_spec (s : Bs) : PCall Tryz.prog 5 [dS s] fun r => r = dB true := by
 refine pcall_of Tryz.func5 rfl rfl Tryz.ntmps5 (rs := [.tmp 2]) (tys := [4]) rfl rfl (by simp) ?_
 (refine awp_sr fun Y Yh => ?_; simp [go_sem]; ((repeat' (first|(refine ag_x ?_;simp [go_sem])|intro _|apply And.intro|(apply Yh;clear Yh Y)));all_goals first|apply Hold.mk|omega|with_reducible assumption|skip))
 refine awp_seq_k fun K1 hK1 => ?_
 (refine awp_sr fun Y Yh => ?_; simp [go_sem]; ((repeat' (first|(refine ag_x ?_;simp [go_sem])|intro _|apply And.intro|(apply Yh;clear Yh Y)));all_goals first|apply Hold.mk|omega|with_reducible assumption|skip))
 by_cases hl : 3000 < s.length
 ·have hl' : (3000 : Int) < s.length := by omega
  (refine awp_if fun T F hT hF => ?_; simp [go_sem, hl, hl']; refine hT ?_; clear hT hF T F)
  (refine awp_sr fun Y Yh => ?_; simp [go_sem]; ((repeat' (first|(refine ag_x ?_;simp [go_sem])|intro _|apply And.intro|(apply Yh;clear Yh Y)));all_goals first|apply Hold.mk|omega|with_reducible assumption|skip))
  ((try refine CallT.toA ?_); refine callT_m (by first|exact .inl ⟨rfl,rfl⟩|exact .inr rfl) (by simp [go_sem]) ?_; intro args ha; simp [go_sem] at ha; subst ha; refine ⟨_, sane_spec, ?_⟩; rintro _ rfl; simp [go_sem]; ((repeat' (first|(refine ag_x ?_;simp [go_sem])|intro _|apply And.intro|(apply Yh;clear Yh Y)));all_goals first|apply Hold.mk|omega|with_reducible assumption|skip))
  (refine awp_ret ?_; simp [go_sem])
 ·have hl' : ¬ (3000 : Int) < s.length := by omega
  (refine awp_if fun T F hT hF => ?_; simp [go_sem, hl, hl']; refine hF ?_; clear hT hF T F)
  refine awp_skip ?_
  refine hK1 _ ?_; clear hK1
  have H1 := jquote_spec s (by omega)
  have H2 := rquote_spec s (by omega)
  unfold quoV at H1 H2
  cases hv : Lib.validD s with
  | false =>
   rw [hv] at H1 H2
   simp only [Bool.false_eq_true, if_false] at H1 H2
   (refine awp_sr fun Y Yh => ?_; simp [go_sem]; ((repeat' (first|(refine ag_x ?_;simp [go_sem])|intro _|apply And.intro|(apply Yh;clear Yh Y)));all_goals first|apply Hold.mk|omega|with_reducible assumption|skip))
   ((try refine CallT.toA ?_); refine callT_m (by first|exact .inl ⟨rfl,rfl⟩|exact .inr rfl) (by simp [go_sem]) ?_; intro args ha; simp [go_sem] at ha; subst ha; refine ⟨_, H1, ?_⟩; rintro _ rfl; simp [go_sem]; ((repeat' (first|(refine ag_x ?_;simp [go_sem])|intro _|apply And.intro|(apply Yh;clear Yh Y)));all_goals first|apply Hold.mk|omega|with_reducible assumption|skip))
   (refine awp_sr fun Y Yh => ?_; simp [go_sem]; ((repeat' (first|(refine ag_x ?_;simp [go_sem])|intro _|apply And.intro|(apply Yh;clear Yh Y)));all_goals first|apply Hold.mk|omega|with_reducible assumption|skip))
   ((try refine CallT.toA ?_); refine callT_m (by first|exact .inl ⟨rfl,rfl⟩|exact .inr rfl) (by simp [go_sem]) ?_; intro args ha; simp [go_sem] at ha; subst ha; refine ⟨_, H2, ?_⟩; rintro _ rfl; simp [go_sem]; ((repeat' (first|(refine ag_x ?_;simp [go_sem])|intro _|apply And.intro|(apply Yh;clear Yh Y)));all_goals first|apply Hold.mk|omega|with_reducible assumption|skip))
   refine awp_seq_k fun K2 hK2 => ?_
   (refine awp_sr fun Y Yh => ?_; simp [go_sem]; ((repeat' (first|(refine ag_x ?_;simp [go_sem])|intro _|apply And.intro|(apply Yh;clear Yh Y)));all_goals first|apply Hold.mk|omega|with_reducible assumption|skip))
   (refine awp_if fun T F hT hF => ?_; simp [go_sem]; refine hF ?_; clear hT hF T F)
   refine awp_skip ?_
   refine hK2 _ ?_; clear hK2
   refine awp_seq_k fun K3 hK3 => ?_
   (refine awp_sr fun Y Yh => ?_; simp [go_sem]; ((repeat' (first|(refine ag_x ?_;simp [go_sem])|intro _|apply And.intro|(apply Yh;clear Yh Y)));all_goals first|apply Hold.mk|omega|with_reducible assumption|skip))
   (refine awp_if fun T F hT hF => ?_; simp [go_sem]; refine hF ?_; clear hT hF T F)
   refine awp_skip ?_
   refine hK3 _ ?_; clear hK3
   (refine awp_sr fun Y Yh => ?_; simp [go_sem]; ((repeat' (first|(refine ag_x ?_;simp [go_sem])|intro _|apply And.intro|(apply Yh;clear Yh Y)));all_goals first|apply Hold.mk|omega|with_reducible assumption|skip))
   ((try refine CallT.toA ?_); refine callT_m (by first|exact .inl ⟨rfl,rfl⟩|exact .inr rfl) (by simp [go_sem]) ?_; intro args ha; simp [go_sem] at ha; subst ha; refine ⟨_, sane_spec, ?_⟩; rintro _ rfl; simp [go_sem]; ((repeat' (first|(refine ag_x ?_;simp [go_sem])|intro _|apply And.intro|(apply Yh;clear Yh Y)));all_goals first|apply Hold.mk|omega|with_reducible assumption|skip))
   (refine awp_ret ?_; simp [go_sem])
  | true =>
   rw [hv] at H1 H2
   simp only [if_true] at H1 H2
   have HP := parse_spec (quoteV s) (by have := qBs_len s; simp [quoteV]; omega)
   have hp : parO (quoteV s) = (.mk 4 s [] [], 0, 0) := by
    unfold parO
    rw [quote_par s hv (by omega)]
   rw [hp] at HP
   simp only [dJ_mk] at HP
   generalize quoteV s = q at *
   (refine awp_sr fun Y Yh => ?_; simp [go_sem]; ((repeat' (first|(refine ag_x ?_;simp [go_sem])|intro _|apply And.intro|(apply Yh;clear Yh Y)));all_goals first|apply Hold.mk|omega|with_reducible assumption|skip))
   ((try refine CallT.toA ?_); refine callT_m (by first|exact .inl ⟨rfl,rfl⟩|exact .inr rfl) (by simp [go_sem]) ?_; intro args ha; simp [go_sem] at ha; subst ha; refine ⟨_, H1, ?_⟩; rintro _ rfl; simp [go_sem]; ((repeat' (first|(refine ag_x ?_;simp [go_sem])|intro _|apply And.intro|(apply Yh;clear Yh Y)));all_goals first|apply Hold.mk|omega|with_reducible assumption|skip))
   (refine awp_sr fun Y Yh => ?_; simp [go_sem]; ((repeat' (first|(refine ag_x ?_;simp [go_sem])|intro _|apply And.intro|(apply Yh;clear Yh Y)));all_goals first|apply Hold.mk|omega|with_reducible assumption|skip))
   ((try refine CallT.toA ?_); refine callT_m (by first|exact .inl ⟨rfl,rfl⟩|exact .inr rfl) (by simp [go_sem]) ?_; intro args ha; simp [go_sem] at ha; subst ha; refine ⟨_, H2, ?_⟩; rintro _ rfl; simp [go_sem]; ((repeat' (first|(refine ag_x ?_;simp [go_sem])|intro _|apply And.intro|(apply Yh;clear Yh Y)));all_goals first|apply Hold.mk|omega|with_reducible assumption|skip))
   refine awp_seq_k fun K2 hK2 => ?_
   (refine awp_sr fun Y Yh => ?_; simp [go_sem]; ((repeat' (first|(refine ag_x ?_;simp [go_sem])|intro _|apply And.intro|(apply Yh;clear Yh Y)));all_goals first|apply Hold.mk|omega|with_reducible assumption|skip))
   (refine awp_if fun T F hT hF => ?_; simp [go_sem]; refine hF ?_; clear hT hF T F)
   refine awp_skip ?_
   refine hK2 _ ?_; clear hK2
   refine awp_seq_k fun K3 hK3 => ?_
   (refine awp_sr fun Y Yh => ?_; simp [go_sem]; ((repeat' (first|(refine ag_x ?_;simp [go_sem])|intro _|apply And.intro|(apply Yh;clear Yh Y)));all_goals first|apply Hold.mk|omega|with_reducible assumption|skip))
   (refine awp_if fun T F hT hF => ?_; simp [go_sem]; refine hT ?_; clear hT hF T F)
   (refine awp_sr fun Y Yh => ?_; simp [go_sem]; ((repeat' (first|(refine ag_x ?_;simp [go_sem])|intro _|apply And.intro|(apply Yh;clear Yh Y)));all_goals first|apply Hold.mk|omega|with_reducible assumption|skip))
   ((try refine CallT.toA ?_); refine callT_m (by first|exact .inl ⟨rfl,rfl⟩|exact .inr rfl) (by simp [go_sem]) ?_; intro args ha; simp [go_sem] at ha; subst ha; refine ⟨_, HP, ?_⟩; rintro _ rfl; simp [go_sem]; ((repeat' (first|(refine ag_x ?_;simp [go_sem])|intro _|apply And.intro|(apply Yh;clear Yh Y)));all_goals first|apply Hold.mk|omega|with_reducible assumption|skip))
   (refine awp_sr fun Y Yh => ?_; simp [go_sem]; ((repeat' (first|(refine ag_x ?_;simp [go_sem])|intro _|apply And.intro|(apply Yh;clear Yh Y)));all_goals first|apply Hold.mk|omega|with_reducible assumption|skip))
   (refine awp_if fun T F hT hF => ?_; simp [go_sem]; refine hF ?_; clear hT hF T F)
   refine awp_skip ?_
   refine hK3 _ ?_; clear hK3
   (refine awp_sr fun Y Yh => ?_; simp [go_sem]; ((repeat' (first|(refine ag_x ?_;simp [go_sem])|intro _|apply And.intro|(apply Yh;clear Yh Y)));all_goals first|apply Hold.mk|omega|with_reducible assumption|skip))
   ((try refine CallT.toA ?_); refine callT_m (by first|exact .inl ⟨rfl,rfl⟩|exact .inr rfl) (by simp [go_sem]) ?_; intro args ha; simp [go_sem] at ha; subst ha; refine ⟨_, sane_spec, ?_⟩; rintro _ rfl; simp [go_sem]; ((repeat' (first|(refine ag_x ?_;simp [go_sem])|intro _|apply And.intro|(apply Yh;clear Yh Y)));all_goals first|apply Hold.mk|omega|with_reducible assumption|skip))
   (refine awp_ret ?_; simp [go_sem])
end Go.Proofs.YtkgmecjaejaehaaGreatDoor
