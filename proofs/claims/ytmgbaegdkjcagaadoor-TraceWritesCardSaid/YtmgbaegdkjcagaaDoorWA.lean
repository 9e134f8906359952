/- Part of a proof: see the last text. -/
import Derived.Test.YtmgbaegdkjcagaaDoorED
import Derived.Test.YtmgbaegdkjcagaaDoorSA
import Derived.Lib.Split
import Derived.Lib.AtoiAll
import Derived.Lib.ItoaNum
import Derived.Lib.ItoaLen
import Derived.Lib.SlicesS
set_option linter.unusedVariables false
set_option linter.unusedSimpArgs false
namespace Go.Proofs.YtmgbaegdkjcagaaDoor
open Go.Eng
set_option maxRecDepth 20000
@[go_sem] abbrev cI (n : Int) : List D := [.v (.int .i64 n)]
@[go_sem] abbrev dI (n : Int) : D := .v (.int .i64 n)
@[go_sem] abbrev dB (n : Bool) : D := .v (.bool n)
@[go_sem] abbrev dIs (l : List Int) : D := .sl 1 (l.map cI)

structure Ins where (op d a b n x : Int) deriving DecidableEq
structure Exi where (back : Int) (slots : List Int) deriving DecidableEq
structure Tr where (regs : Int) (code : List Ins) (exits : List Exi) deriving DecidableEq
@[go_sem] abbrev cIns (i : Ins) : List D := [dI i.op, dI i.d, dI i.a, dI i.b, dI i.n, dI i.x]
@[go_sem] abbrev cExi (i : Exi) : List D := [dI i.back, dIs i.slots]
@[go_sem] abbrev dTr (t : Tr) : D := .agg [dI t.regs, .sl 6 (t.code.map cIns), .sl 2 (t.exits.map cExi)]

def isW (m : Int) : Bool := decide (-1000000000000000 ≤ m) && decide (m ≤ 1000000000000000)
theorem isW_iff {m : Int} : isW m = true ↔ -1000000000000000 ≤ m ∧ m ≤ 1000000000000000 := by simp [isW]
def ab (x : Int) : Int := if x < 0 then -x else x
theorem ab_1 (x : Int) : (if x < -x then -x else x) = ab x := by unfold ab; split <;> split <;> omega
theorem ab_2 (x : Int) : (if x < 0 then -x else x) = ab x := rfl
theorem ab_natAbs (x : Int) : ab x = x.natAbs := by unfold ab; split <;> omega

theorem tdiv_bound (a b : Int) : -ab a ≤ a.tdiv b ∧ a.tdiv b ≤ ab a := by
  have h := Int.natAbs_tdiv a b
  have h2 : a.natAbs.div b.natAbs ≤ a.natAbs := Nat.div_le_self _ _
  rw [ab_natAbs]
  omega
theorem tmod_bound (a b : Int) (h : b ≠ 0) : -ab b < a.tmod b ∧ a.tmod b < ab b ∧ (0 ≤ a → 0 ≤ a.tmod b) ∧ (a ≤ 0 → a.tmod b ≤ 0) := by
  have h1 := Int.natAbs_tmod a b
  have h2 : a.natAbs % b.natAbs < b.natAbs := Nat.mod_lt _ (by omega)
  rw [ab_natAbs]
  refine ⟨by omega, by omega, fun h => Int.tmod_nonneg b h, fun h => ?_⟩
  have := Int.tmod_nonneg b (a := -a) (by omega)
  rw [Int.neg_tmod] at this
  omega

/-- is the product of two words one -/
def mulOk (a b : Int) : Bool := !(!decide (a = 0) && decide (Int.tdiv 1000000000000000 (ab a) < ab b))
theorem mulOk_word {a b : Int} (h : mulOk a b = true) : isW (a * b) = true := by
  rw [isW_iff]
  unfold mulOk at h
  by_cases h0 : a = 0
  · subst h0; rw [Int.zero_mul]; omega
  · simp only [h0, decide_false, Bool.not_false, Bool.true_and, Bool.not_eq_true', decide_eq_false_iff_not, Int.not_lt] at h
    have hp : 0 < ab a := by unfold ab; split <;> omega
    rw [Int.tdiv_eq_ediv_of_nonneg (by omega), Int.le_ediv_iff_mul_le hp] at h
    have : (a * b).natAbs = a.natAbs * b.natAbs := Int.natAbs_mul a b
    rw [ab_natAbs, ab_natAbs] at h
    have h' : ((b.natAbs * a.natAbs : Nat) : Int) ≤ 1000000000000000 := by rw [Int.natCast_mul]; exact h
    rw [Nat.mul_comm] at h'
    rw [← this] at h'
    omega
def prodV (a b : Int) : Int := if mulOk a b then a * b else 0
/-- the quotient, rounded down -/
def adj (a b : Int) : Bool := (!decide (a.tmod b = 0)) && (decide (a < 0) != decide (b < 0))
def floorV (a b : Int) : Int := if adj a b then a.tdiv b - 1 else a.tdiv b
theorem floor_mul (a b : Int) : floorV a b * b = a - (if adj a b then a.tmod b + b else a.tmod b) := by
  have := Int.tmod_add_mul_tdiv a b
  unfold floorV
  split
  · rw [Int.sub_mul, Int.mul_comm (a.tdiv b) b]; omega
  · rw [Int.mul_comm (a.tdiv b) b]; omega
theorem floor_bounds {a b : Int} (h : b ≠ 0) (ha : isW a = true) (hb : isW b = true) : -1000000000000001 ≤ floorV a b ∧ floorV a b ≤ 1000000000000000 ∧ -1000000000000000 ≤ a - floorV a b * b ∧ a - floorV a b * b ≤ 1000000000000000 := by
  have h1 := tdiv_bound a b
  have h2 := tmod_bound a b h
  have h3 := floor_mul a b
  rw [isW_iff] at ha hb
  refine ⟨?_, ?_, ?_, ?_⟩
  · unfold floorV ab at *; split <;> split at h1 <;> omega
  · unfold floorV ab at *; split <;> split at h1 <;> omega
  all_goals
    rw [h3]
    unfold adj
    unfold ab at *
    split <;> (rename_i hc; simp at hc; split at h2 <;> omega)

/-- what an operation on two words gives -/
def valP (op a b : Int) : Int × Bool :=
  if op = 1 then (a, true) else if op = 2 then (a + b, isW (a + b)) else if op = 3 then (a - b, isW (a - b)) else if op = 4 then (prodV a b, mulOk a b)
  else if op = 5 ∨ op = 6 then (if b = 0 then (0, false) else if op = 6 then (a - floorV a b * b, true) else (floorV a b, isW (floorV a b)))
  else if op = 7 then (if a < b then 1 else 0, true) else (if a = b then 1 else 0, true)
def valR (op a b : Int) : Int × Bool :=
  if op = 2 then (a + b, isW (a + b)) else if op = 3 then (a - b, isW (a - b)) else if op = 4 then (prodV a b, mulOk a b)
  else if op = 5 ∨ op = 6 then (if b = 0 then (0, false) else if op = 6 then (a - floorV a b * b, true) else (floorV a b, isW (floorV a b)))
  else if op = 7 then (if a < b then 1 else 0, true) else if op = 8 then (if a = b then 1 else 0, true) else (0, true)
theorem val_eq {op a b : Int} (h : 2 ≤ op) (h' : op ≤ 8) : valP op a b = valR op a b := by
  unfold valP valR
  by_cases h8 : op = 8
  · subst h8; simp
  · have h1 : op ≠ 1 := by omega
    have h7 : op = 2 ∨ op = 3 ∨ op = 4 ∨ op = 5 ∨ op = 6 ∨ op = 7 := by omega
    rcases h7 with h | h | h | h | h | h <;> subst h <;> simp
end Go.Proofs.YtmgbaegdkjcagaaDoor

namespace Go.Proofs.YtmgbaegdkjcagaaDoor
open Go.Eng
set_option maxRecDepth 20000
attribute [local irreducible] AG CallA CallT AWp PCall ACall BR

theorem word_spec (m : Int) : PCall Tryd.prog 34 [dI m] fun r => r = dB (isW m) := by
  refine pcall_of Tryd.func34 rfl rfl Tryd.ntmps34 (rs := [.tmp 2]) (tys := [4]) rfl rfl (by simp) ?_
  (refine awp_sr fun KK hKK => ?_; simp [go_sem]; ((repeat' (first|(refine ag_x ?_;simp [go_sem])|intro _|refine And.intro ?_ ?_|(apply hKK;clear hKK KK)));all_goals first|refine Hold.mk ?_|omega|with_reducible assumption|(simp only [InR] at *;omega)|skip))
  (refine awp_sr fun KK hKK => ?_; simp [go_sem]; ((repeat' (first|(refine ag_x ?_;simp [go_sem])|intro _|refine And.intro ?_ ?_|(apply hKK;clear hKK KK)));all_goals first|refine Hold.mk ?_|omega|with_reducible assumption|(simp only [InR] at *;omega)|skip))
  (refine awp_ret ?_; simp [go_sem, isW])
theorem in_spec (m lo hi : Int) : PCall Tryd.prog 42 [dI m, dI lo, dI hi] fun r => r = dB (decide (lo ≤ m) && decide (m ≤ hi)) := by
  refine pcall_of Tryd.func42 rfl rfl Tryd.ntmps42 (rs := [.tmp 6]) (tys := [4]) rfl rfl (by simp) ?_
  (refine awp_sr fun KK hKK => ?_; simp [go_sem]; ((repeat' (first|(refine ag_x ?_;simp [go_sem])|intro _|refine And.intro ?_ ?_|(apply hKK;clear hKK KK)));all_goals first|refine Hold.mk ?_|omega|with_reducible assumption|(simp only [InR] at *;omega)|skip))
  (refine awp_sr fun KK hKK => ?_; simp [go_sem]; ((repeat' (first|(refine ag_x ?_;simp [go_sem])|intro _|refine And.intro ?_ ?_|(apply hKK;clear hKK KK)));all_goals first|refine Hold.mk ?_|omega|with_reducible assumption|(simp only [InR] at *;omega)|skip))
  (refine awp_ret ?_; simp [go_sem])
theorem truth_spec (b : Bool) : PCall Tryd.prog 53 [dB b] fun r => r = dI (if b then 1 else 0) := by
  refine pcall_of Tryd.func53 rfl rfl Tryd.ntmps53 (rs := [.tmp 2]) (tys := [3]) rfl rfl (by simp) ?_
  (refine awp_sr fun KK hKK => ?_; simp [go_sem]; ((repeat' (first|(refine ag_x ?_;simp [go_sem])|intro _|refine And.intro ?_ ?_|(apply hKK;clear hKK KK)));all_goals first|refine Hold.mk ?_|omega|with_reducible assumption|(simp only [InR] at *;omega)|skip))
  refine awp_seq_k fun K1 hK1 => ?_
  (refine awp_sr fun KK hKK => ?_; simp [go_sem]; ((repeat' (first|(refine ag_x ?_;simp [go_sem])|intro _|refine And.intro ?_ ?_|(apply hKK;clear hKK KK)));all_goals first|refine Hold.mk ?_|omega|with_reducible assumption|(simp only [InR] at *;omega)|skip))
  (refine awp_if fun T F hT hF => ?_; simp [go_sem]; refine BR.intro (fun h2 => hT ?_) (fun h2 => hF ?_); all_goals clear hT hF T F; try simp at h2)
  · (refine awp_sr fun KK hKK => ?_; simp [go_sem]; ((repeat' (first|(refine ag_x ?_;simp [go_sem])|intro _|refine And.intro ?_ ?_|(apply hKK;clear hKK KK)));all_goals first|refine Hold.mk ?_|omega|with_reducible assumption|(simp only [InR] at *;omega)|skip))
    (refine awp_ret ?_; simp [go_sem, h2])
  · refine awp_skip ?_
    refine hK1 _ ?_; clear hK1
    (refine awp_sr fun KK hKK => ?_; simp [go_sem]; ((repeat' (first|(refine ag_x ?_;simp [go_sem])|intro _|refine And.intro ?_ ?_|(apply hKK;clear hKK KK)));all_goals first|refine Hold.mk ?_|omega|with_reducible assumption|(simp only [InR] at *;omega)|skip))
    (refine awp_ret ?_; simp [go_sem, h2])
theorem product_spec (a b : Int) (ha : isW a = true) (hb : isW b = true) : PCall Tryd.prog 51 [dI a, dI b] fun r => r = .tup [dI (prodV a b), dB (mulOk a b)] := by 
  have ha' := isW_iff.1 ha
  have hb' := isW_iff.1 hb
  have hq := tdiv_bound 1000000000000000 (ab a)
  simp only [ab_2 1000000000000000, show ab 1000000000000000 = 1000000000000000 from rfl] at hq
  have hab : 0 ≤ ab a ∧ ab a ≤ 1000000000000000 ∧ 0 ≤ ab b ∧ ab b ≤ 1000000000000000 := by unfold ab; split <;> split <;> omega
  have hz : a ≠ 0 → ab a ≠ 0 := fun h => by unfold ab; split <;> omega
  refine pcall_of Tryd.func51 rfl rfl Tryd.ntmps51 (rs := [.tmp 4, .tmp 5]) (tys := [3, 4]) rfl rfl (by simp) ?_
  (refine awp_sr fun KK hKK => ?_; simp [go_sem]; ((repeat' (first|(refine ag_x ?_;simp [go_sem])|intro _|refine And.intro ?_ ?_|(apply hKK;clear hKK KK)));all_goals first|refine Hold.mk ?_|omega|with_reducible assumption|(simp only [InR] at *;omega)|skip))
  refine awp_seq_k fun K1 hK1 => ?_
  (refine awp_sr fun KK hKK => ?_; simp [go_sem, ab_1]; ((repeat' (first|(refine ag_x ?_;simp [go_sem, ab_1])|intro _|refine And.intro ?_ ?_|(apply hKK;clear hKK KK)));all_goals first|refine Hold.mk ?_|omega|with_reducible assumption|(simp only [InR] at *;omega)|skip))
  (refine awp_if fun T F hT hF => ?_; simp [go_sem]; refine BR.intro (fun h2 => hT ?_) (fun h2 => hF ?_); all_goals clear hT hF T F; try simp at h2) 
  · (refine awp_sr fun KK hKK => ?_; simp [go_sem]; ((repeat' (first|(refine ag_x ?_;simp [go_sem])|intro _|refine And.intro ?_ ?_|(apply hKK;clear hKK KK)));all_goals first|refine Hold.mk ?_|omega|with_reducible assumption|(simp only [InR] at *;omega)|skip))
    (refine awp_ret ?_; simp [go_sem, prodV, mulOk, h2])
  · refine awp_skip ?_
    refine hK1 _ ?_; clear hK1
    have hm : mulOk a b = true := by unfold mulOk; by_cases h0 : a = 0 <;> simp_all
    have hw := isW_iff.1 (mulOk_word hm)
    (refine awp_sr fun KK hKK => ?_; simp [go_sem]; ((repeat' (first|(refine ag_x ?_;simp [go_sem])|intro _|refine And.intro ?_ ?_|(apply hKK;clear hKK KK)));all_goals first|refine Hold.mk ?_|omega|with_reducible assumption|(simp only [InR] at *;omega)|skip))
    (refine awp_ret ?_; simp [go_sem, prodV, hm])
theorem floor_spec (a b : Int) (ha : isW a = true) (hb : isW b = true) (h0 : b ≠ 0) : PCall Tryd.prog 52 [dI a, dI b] fun r => r = dI (floorV a b) := by 
  have ha' := isW_iff.1 ha
  have hb' := isW_iff.1 hb
  have hq := tdiv_bound a b
  have hab : 0 ≤ ab a ∧ ab a ≤ 1000000000000000 := by unfold ab; split <;> omega
  refine pcall_of Tryd.func52 rfl rfl Tryd.ntmps52 (rs := [.tmp 4]) (tys := [3]) rfl rfl (by simp) ?_
  (refine awp_sr fun KK hKK => ?_; simp [go_sem]; ((repeat' (first|(refine ag_x ?_;simp [go_sem])|intro _|refine And.intro ?_ ?_|(apply hKK;clear hKK KK)));all_goals first|refine Hold.mk ?_|omega|with_reducible assumption|(simp only [InR] at *;omega)|skip))
  (refine awp_sr fun KK hKK => ?_; simp [go_sem]; ((repeat' (first|(refine ag_x ?_;simp [go_sem])|intro _|refine And.intro ?_ ?_|(apply hKK;clear hKK KK)));all_goals first|refine Hold.mk ?_|omega|with_reducible assumption|(simp only [InR] at *;omega)|skip))
  refine awp_seq_k fun K1 hK1 => ?_
  (refine awp_sr fun KK hKK => ?_; simp [go_sem]; ((repeat' (first|(refine ag_x ?_;simp [go_sem])|intro _|refine And.intro ?_ ?_|(apply hKK;clear hKK KK)));all_goals first|refine Hold.mk ?_|omega|with_reducible assumption|(simp only [InR] at *;omega)|skip))
  (refine awp_if fun T F hT hF => ?_; simp [go_sem]; refine BR.intro (fun h2 => hT ?_) (fun h2 => hF ?_); all_goals clear hT hF T F; try simp at h2) 
  · (refine awp_r fun KK hKK => ?_; simp [go_sem]; ((repeat' (first|(refine ag_x ?_;simp [go_sem])|intro _|refine And.intro ?_ ?_|(apply hKK;clear hKK KK)));all_goals first|refine Hold.mk ?_|omega|with_reducible assumption|(simp only [InR] at *;omega)|skip))
    refine hK1 _ ?_; clear hK1
    (refine awp_sr fun KK hKK => ?_; simp [go_sem]; ((repeat' (first|(refine ag_x ?_;simp [go_sem])|intro _|refine And.intro ?_ ?_|(apply hKK;clear hKK KK)));all_goals first|refine Hold.mk ?_|omega|with_reducible assumption|(simp only [InR] at *;omega)|skip))
    (refine awp_ret ?_; simp [go_sem, floorV, adj, h2])
  · refine awp_skip ?_
    refine hK1 _ ?_; clear hK1
    (refine awp_sr fun KK hKK => ?_; simp [go_sem]; ((repeat' (first|(refine ag_x ?_;simp [go_sem])|intro _|refine And.intro ?_ ?_|(apply hKK;clear hKK KK)));all_goals first|refine Hold.mk ?_|omega|with_reducible assumption|(simp only [InR] at *;omega)|skip))
    (refine awp_ret ?_; simp [go_sem, floorV, adj])
    simp_all
end Go.Proofs.YtmgbaegdkjcagaaDoor

namespace Go.Proofs.YtmgbaegdkjcagaaDoor
open Go.Eng
set_option maxRecDepth 20000
attribute [local irreducible] AG CallA CallT AWp PCall ACall BR
theorem value_spec (op a b : Int) (ha : isW a = true) (hb : isW b = true) : PCall Tryd.prog 37 [dI op, dI a, dI b] fun r => r = .tup [dI (valP op a b).1, dB (valP op a b).2] := by 
  have ha' := isW_iff.1 ha
  have hb' := isW_iff.1 hb
  refine pcall_of Tryd.func37 rfl rfl Tryd.ntmps37 (rs := [.tmp 6, .tmp 7]) (tys := [3, 4]) rfl rfl (by simp) ?_
  (refine awp_sr fun KK hKK => ?_; simp [go_sem]; ((repeat' (first|(refine ag_x ?_;simp [go_sem])|intro _|refine And.intro ?_ ?_|(apply hKK;clear hKK KK)));all_goals first|refine Hold.mk ?_|omega|with_reducible assumption|(simp only [InR] at *;omega)|skip))
  refine awp_seq_k fun K1 hK1 => ?_
  (refine awp_sr fun KK hKK => ?_; simp [go_sem]; ((repeat' (first|(refine ag_x ?_;simp [go_sem])|intro _|refine And.intro ?_ ?_|(apply hKK;clear hKK KK)));all_goals first|refine Hold.mk ?_|omega|with_reducible assumption|(simp only [InR] at *;omega)|skip))
  refine awp_block ?_
  (refine awp_sr fun KK hKK => ?_; simp [go_sem]; ((repeat' (first|(refine ag_x ?_;simp [go_sem])|intro _|refine And.intro ?_ ?_|(apply hKK;clear hKK KK)));all_goals first|refine Hold.mk ?_|omega|with_reducible assumption|(simp only [InR] at *;omega)|skip))
  (refine awp_if fun T F hT hF => ?_; simp [go_sem]; refine BR.intro (fun h2 => hT ?_) (fun h2 => hF ?_); all_goals clear hT hF T F; try simp at h2) 
  · (refine awp_sr fun KK hKK => ?_; simp [go_sem]; ((repeat' (first|(refine ag_x ?_;simp [go_sem])|intro _|refine And.intro ?_ ?_|(apply hKK;clear hKK KK)));all_goals first|refine Hold.mk ?_|omega|with_reducible assumption|(simp only [InR] at *;omega)|skip))
    (refine awp_ret ?_; simp [go_sem, valP, h2])
  · (refine awp_sr fun KK hKK => ?_; simp [go_sem]; ((repeat' (first|(refine ag_x ?_;simp [go_sem])|intro _|refine And.intro ?_ ?_|(apply hKK;clear hKK KK)));all_goals first|refine Hold.mk ?_|omega|with_reducible assumption|(simp only [InR] at *;omega)|skip))
    (refine awp_if fun T F hT hF => ?_; simp [go_sem]; refine BR.intro (fun h3 => hT ?_) (fun h3 => hF ?_); all_goals clear hT hF T F; try simp at h3) 
    · (refine awp_sr fun KK hKK => ?_; simp [go_sem]; ((repeat' (first|(refine ag_x ?_;simp [go_sem])|intro _|refine And.intro ?_ ?_|(apply hKK;clear hKK KK)));all_goals first|refine Hold.mk ?_|omega|with_reducible assumption|(simp only [InR] at *;omega)|skip))
      ((try refine CallT.toA ?_); refine callT_m (by first | exact .inl ⟨rfl, rfl⟩ | exact .inr rfl) (by simp [go_sem]) ?_; intro args ha; simp [go_sem] at ha; subst ha; refine ⟨_, (word_spec _), ?_⟩; rintro _ rfl; simp [go_sem]; ((repeat' (first|(refine ag_x ?_;simp [go_sem])|intro _|refine And.intro ?_ ?_|(apply hKK;clear hKK KK)));all_goals first|refine Hold.mk ?_|omega|with_reducible assumption|(simp only [InR] at *;omega)|skip))
      (refine awp_ret ?_; simp [go_sem, valP, h2, h3])
    · (refine awp_sr fun KK hKK => ?_; simp [go_sem]; ((repeat' (first|(refine ag_x ?_;simp [go_sem])|intro _|refine And.intro ?_ ?_|(apply hKK;clear hKK KK)));all_goals first|refine Hold.mk ?_|omega|with_reducible assumption|(simp only [InR] at *;omega)|skip))
      (refine awp_if fun T F hT hF => ?_; simp [go_sem]; refine BR.intro (fun h4 => hT ?_) (fun h4 => hF ?_); all_goals clear hT hF T F; try simp at h4) 
      · (refine awp_sr fun KK hKK => ?_; simp [go_sem]; ((repeat' (first|(refine ag_x ?_;simp [go_sem])|intro _|refine And.intro ?_ ?_|(apply hKK;clear hKK KK)));all_goals first|refine Hold.mk ?_|omega|with_reducible assumption|(simp only [InR] at *;omega)|skip))
        ((try refine CallT.toA ?_); refine callT_m (by first | exact .inl ⟨rfl, rfl⟩ | exact .inr rfl) (by simp [go_sem]) ?_; intro args ha; simp [go_sem] at ha; subst ha; refine ⟨_, (word_spec _), ?_⟩; rintro _ rfl; simp [go_sem]; ((repeat' (first|(refine ag_x ?_;simp [go_sem])|intro _|refine And.intro ?_ ?_|(apply hKK;clear hKK KK)));all_goals first|refine Hold.mk ?_|omega|with_reducible assumption|(simp only [InR] at *;omega)|skip))
        (refine awp_ret ?_; simp [go_sem, valP, h2, h3, h4])
      · (refine awp_sr fun KK hKK => ?_; simp [go_sem]; ((repeat' (first|(refine ag_x ?_;simp [go_sem])|intro _|refine And.intro ?_ ?_|(apply hKK;clear hKK KK)));all_goals first|refine Hold.mk ?_|omega|with_reducible assumption|(simp only [InR] at *;omega)|skip))
        (refine awp_if fun T F hT hF => ?_; simp [go_sem]; refine BR.intro (fun h5 => hT ?_) (fun h5 => hF ?_); all_goals clear hT hF T F; try simp at h5) 
        · (refine awp_sr fun KK hKK => ?_; simp [go_sem]; ((repeat' (first|(refine ag_x ?_;simp [go_sem])|intro _|refine And.intro ?_ ?_|(apply hKK;clear hKK KK)));all_goals first|refine Hold.mk ?_|omega|with_reducible assumption|(simp only [InR] at *;omega)|skip))
          ((try refine CallT.toA ?_); refine callT_m (by first | exact .inl ⟨rfl, rfl⟩ | exact .inr rfl) (by simp [go_sem]) ?_; intro args ha; simp [go_sem] at ha; subst ha; refine ⟨_, (product_spec _ _ ha hb), ?_⟩; rintro _ rfl; simp [go_sem]; ((repeat' (first|(refine ag_x ?_;simp [go_sem])|intro _|refine And.intro ?_ ?_|(apply hKK;clear hKK KK)));all_goals first|refine Hold.mk ?_|omega|with_reducible assumption|(simp only [InR] at *;omega)|skip))
          (refine awp_ret ?_; simp [go_sem, valP, h2, h3, h4, h5])
        · refine awp_seq_k fun K6 hK6 => ?_
          (refine awp_sr fun KK hKK => ?_; simp [go_sem]; ((repeat' (first|(refine ag_x ?_;simp [go_sem])|intro _|refine And.intro ?_ ?_|(apply hKK;clear hKK KK)));all_goals first|refine Hold.mk ?_|omega|with_reducible assumption|(simp only [InR] at *;omega)|skip))
          (refine awp_if fun T F hT hF => ?_; simp [go_sem]; refine BR.intro (fun h7 => hT ?_) (fun h7 => hF ?_); all_goals clear hT hF T F; try simp at h7) 
          · refine awp_skip ?_
            refine hK6 _ ?_; clear hK6
            (refine awp_if fun T F hT hF => ?_; simp [go_sem]; refine BR.intro (fun h8 => hT ?_) (fun h8 => hF ?_); all_goals clear hT hF T F; try simp at h8) 
            · refine awp_seq_k fun K9 hK9 => ?_
              (refine awp_sr fun KK hKK => ?_; simp [go_sem]; ((repeat' (first|(refine ag_x ?_;simp [go_sem])|intro _|refine And.intro ?_ ?_|(apply hKK;clear hKK KK)));all_goals first|refine Hold.mk ?_|omega|with_reducible assumption|(simp only [InR] at *;omega)|skip))
              (refine awp_if fun T F hT hF => ?_; simp [go_sem]; refine BR.intro (fun h10 => hT ?_) (fun h10 => hF ?_); all_goals clear hT hF T F; try simp at h10) 
              · (refine awp_sr fun KK hKK => ?_; simp [go_sem]; ((repeat' (first|(refine ag_x ?_;simp [go_sem])|intro _|refine And.intro ?_ ?_|(apply hKK;clear hKK KK)));all_goals first|refine Hold.mk ?_|omega|with_reducible assumption|(simp only [InR] at *;omega)|skip))
                (refine awp_ret ?_; simp [go_sem, valP, h2, h3, h4, h5, h7, h8, h10])
              · refine awp_skip ?_
                refine hK9 _ ?_; clear hK9
                have hf := floor_bounds h10 ha hb
                (refine awp_sr fun KK hKK => ?_; simp [go_sem]; ((repeat' (first|(refine ag_x ?_;simp [go_sem])|intro _|refine And.intro ?_ ?_|(apply hKK;clear hKK KK)));all_goals first|refine Hold.mk ?_|omega|with_reducible assumption|(simp only [InR] at *;omega)|skip))
                ((try refine CallT.toA ?_); refine callT_m (by first | exact .inl ⟨rfl, rfl⟩ | exact .inr rfl) (by simp [go_sem]) ?_; intro args ha; simp [go_sem] at ha; subst ha; refine ⟨_, (floor_spec _ _ ha hb ‹_›), ?_⟩; rintro _ rfl; simp [go_sem]; ((repeat' (first|(refine ag_x ?_;simp [go_sem])|intro _|refine And.intro ?_ ?_|(apply hKK;clear hKK KK)));all_goals first|refine Hold.mk ?_|omega|with_reducible assumption|(simp only [InR] at *;omega)|skip))
                refine awp_seq_k fun K11 hK11 => ?_
                (refine awp_sr fun KK hKK => ?_; simp [go_sem]; ((repeat' (first|(refine ag_x ?_;simp [go_sem])|intro _|refine And.intro ?_ ?_|(apply hKK;clear hKK KK)));all_goals first|refine Hold.mk ?_|omega|with_reducible assumption|(simp only [InR] at *;omega)|skip))
                (refine awp_if fun T F hT hF => ?_; simp [go_sem]; refine BR.intro (fun h12 => hT ?_) (fun h12 => hF ?_); all_goals clear hT hF T F; try simp at h12) 
                · omega
                · refine awp_skip ?_
                  refine hK11 _ ?_; clear hK11
                  (refine awp_sr fun KK hKK => ?_; simp [go_sem]; ((repeat' (first|(refine ag_x ?_;simp [go_sem])|intro _|refine And.intro ?_ ?_|(apply hKK;clear hKK KK)));all_goals first|refine Hold.mk ?_|omega|with_reducible assumption|(simp only [InR] at *;omega)|skip))
                  ((try refine CallT.toA ?_); refine callT_m (by first | exact .inl ⟨rfl, rfl⟩ | exact .inr rfl) (by simp [go_sem]) ?_; intro args ha; simp [go_sem] at ha; subst ha; refine ⟨_, (word_spec _), ?_⟩; rintro _ rfl; simp [go_sem]; ((repeat' (first|(refine ag_x ?_;simp [go_sem])|intro _|refine And.intro ?_ ?_|(apply hKK;clear hKK KK)));all_goals first|refine Hold.mk ?_|omega|with_reducible assumption|(simp only [InR] at *;omega)|skip))
                  (refine awp_ret ?_; simp [go_sem, valP, h2, h3, h4, h5, h7, h8, h10, h12])
            · omega
          · (refine awp_r fun KK hKK => ?_; simp [go_sem]; ((repeat' (first|(refine ag_x ?_;simp [go_sem])|intro _|refine And.intro ?_ ?_|(apply hKK;clear hKK KK)));all_goals first|refine Hold.mk ?_|omega|with_reducible assumption|(simp only [InR] at *;omega)|skip))
            refine hK6 _ ?_; clear hK6
            (refine awp_if fun T F hT hF => ?_; simp [go_sem]; refine BR.intro (fun h14 => hT ?_) (fun h14 => hF ?_); all_goals clear hT hF T F; try simp at h14) 
            · refine awp_seq_k fun K15 hK15 => ?_
              (refine awp_sr fun KK hKK => ?_; simp [go_sem]; ((repeat' (first|(refine ag_x ?_;simp [go_sem])|intro _|refine And.intro ?_ ?_|(apply hKK;clear hKK KK)));all_goals first|refine Hold.mk ?_|omega|with_reducible assumption|(simp only [InR] at *;omega)|skip))
              (refine awp_if fun T F hT hF => ?_; simp [go_sem]; refine BR.intro (fun h16 => hT ?_) (fun h16 => hF ?_); all_goals clear hT hF T F; try simp at h16) 
              · (refine awp_sr fun KK hKK => ?_; simp [go_sem]; ((repeat' (first|(refine ag_x ?_;simp [go_sem])|intro _|refine And.intro ?_ ?_|(apply hKK;clear hKK KK)));all_goals first|refine Hold.mk ?_|omega|with_reducible assumption|(simp only [InR] at *;omega)|skip))
                (refine awp_ret ?_; simp [go_sem, valP, h2, h3, h4, h5, h7, h14, h16])
              · refine awp_skip ?_
                refine hK15 _ ?_; clear hK15
                have hm := floor_mul a b
                have hf := floor_bounds h16 ha hb
                (refine awp_sr fun KK hKK => ?_; simp [go_sem]; ((repeat' (first|(refine ag_x ?_;simp [go_sem])|intro _|refine And.intro ?_ ?_|(apply hKK;clear hKK KK)));all_goals first|refine Hold.mk ?_|omega|with_reducible assumption|(simp only [InR] at *;omega)|skip))
                ((try refine CallT.toA ?_); refine callT_m (by first | exact .inl ⟨rfl, rfl⟩ | exact .inr rfl) (by simp [go_sem]) ?_; intro args ha; simp [go_sem] at ha; subst ha; refine ⟨_, (floor_spec _ _ ha hb ‹_›), ?_⟩; rintro _ rfl; simp [go_sem]; ((repeat' (first|(refine ag_x ?_;simp [go_sem])|intro _|refine And.intro ?_ ?_|(apply hKK;clear hKK KK)));all_goals first|refine Hold.mk ?_|omega|with_reducible assumption|(simp only [InR] at *;omega)|skip))
                refine awp_seq_k fun K17 hK17 => ?_
                (refine awp_sr fun KK hKK => ?_; simp [go_sem]; ((repeat' (first|(refine ag_x ?_;simp [go_sem])|intro _|refine And.intro ?_ ?_|(apply hKK;clear hKK KK)));all_goals first|refine Hold.mk ?_|omega|with_reducible assumption|(simp only [InR] at *;omega)|skip))
                (refine awp_if fun T F hT hF => ?_; simp [go_sem]; refine BR.intro (fun h18 => hT ?_) (fun h18 => hF ?_); all_goals clear hT hF T F; try simp at h18) 
                · (refine awp_sr fun KK hKK => ?_; simp [go_sem]; ((repeat' (first|(refine ag_x ?_;simp [go_sem])|intro _|refine And.intro ?_ ?_|(apply hKK;clear hKK KK)));all_goals first|refine Hold.mk ?_|omega|with_reducible assumption|(simp only [InR] at *;omega)|skip))
                  (refine awp_ret ?_; simp [go_sem, valP, h2, h3, h4, h5, h7, h14, h16, h18])
                · omega
            · (refine awp_sr fun KK hKK => ?_; simp [go_sem]; ((repeat' (first|(refine ag_x ?_;simp [go_sem])|intro _|refine And.intro ?_ ?_|(apply hKK;clear hKK KK)));all_goals first|refine Hold.mk ?_|omega|with_reducible assumption|(simp only [InR] at *;omega)|skip))
              (refine awp_if fun T F hT hF => ?_; simp [go_sem]; refine BR.intro (fun h19 => hT ?_) (fun h19 => hF ?_); all_goals clear hT hF T F; try simp at h19) 
              · (refine awp_sr fun KK hKK => ?_; simp [go_sem]; ((repeat' (first|(refine ag_x ?_;simp [go_sem])|intro _|refine And.intro ?_ ?_|(apply hKK;clear hKK KK)));all_goals first|refine Hold.mk ?_|omega|with_reducible assumption|(simp only [InR] at *;omega)|skip))
                ((try refine CallT.toA ?_); refine callT_m (by first | exact .inl ⟨rfl, rfl⟩ | exact .inr rfl) (by simp [go_sem]) ?_; intro args ha; simp [go_sem] at ha; subst ha; refine ⟨_, (truth_spec _), ?_⟩; rintro _ rfl; simp [go_sem]; ((repeat' (first|(refine ag_x ?_;simp [go_sem])|intro _|refine And.intro ?_ ?_|(apply hKK;clear hKK KK)));all_goals first|refine Hold.mk ?_|omega|with_reducible assumption|(simp only [InR] at *;omega)|skip))
                (refine awp_ret ?_; simp [go_sem, valP, h2, h3, h4, h5, h7, h14, h19])
              · refine awp_skip ?_
                refine hK1 _ ?_; clear hK1
                (refine awp_sr fun KK hKK => ?_; simp [go_sem]; ((repeat' (first|(refine ag_x ?_;simp [go_sem])|intro _|refine And.intro ?_ ?_|(apply hKK;clear hKK KK)));all_goals first|refine Hold.mk ?_|omega|with_reducible assumption|(simp only [InR] at *;omega)|skip))
                ((try refine CallT.toA ?_); refine callT_m (by first | exact .inl ⟨rfl, rfl⟩ | exact .inr rfl) (by simp [go_sem]) ?_; intro args ha; simp [go_sem] at ha; subst ha; refine ⟨_, (truth_spec _), ?_⟩; rintro _ rfl; simp [go_sem]; ((repeat' (first|(refine ag_x ?_;simp [go_sem])|intro _|refine And.intro ?_ ?_|(apply hKK;clear hKK KK)));all_goals first|refine Hold.mk ?_|omega|with_reducible assumption|(simp only [InR] at *;omega)|skip))
                (refine awp_ret ?_; simp [go_sem, valP, h2, h3, h4, h5, h7, h14, h19])
end Go.Proofs.YtmgbaegdkjcagaaDoor

namespace Go.Proofs.YtmgbaegdkjcagaaDoor
open Go.Eng
set_option maxRecDepth 20000
attribute [local irreducible] AG CallA CallT AWp PCall ACall

/-- the fields of an operation: the letters -/
def flds (op : Int) : List UInt8 :=
  if op = 0 then [68, 78] else if op = 1 then [68, 65] else if 2 ≤ op ∧ op ≤ 6 then [68, 65, 66, 88] else if op = 7 ∨ op = 8 then [68, 65, 66] else if op = 9 then [65, 78, 88] else if op = 10 then [65] else []
@[go_sem] abbrev dS (l : List UInt8) : D := .v (.string ⟨l.toArray⟩)

theorem rfields_spec (op : Int) (h : 0 ≤ op) (h' : op ≤ 10) : PCall Tryd.prog 25 [dI op] fun r => r = dS (flds op) := by
  have hk : op = 0 ∨ op = 1 ∨ op = 2 ∨ op = 3 ∨ op = 4 ∨ op = 5 ∨ op = 6 ∨ op = 7 ∨ op = 8 ∨ op = 9 ∨ op = 10 := by omega
  rcases hk with h | h | h | h | h | h | h | h | h | h | h <;> subst h <;>
  (refine pcall_of Tryd.func25 rfl rfl Tryd.ntmps25 (rs := [.tmp 2]) (tys := [9]) rfl rfl (by simp) ?_
   (repeat' (first | ((first|refine awp_sr fun KK hKK => ?_|refine awp_r fun KK hKK => ?_);simp [go_sem, flds];((repeat' (first|(refine ag_x ?_;simp [go_sem, flds])|intro _|refine And.intro ?_ ?_|(apply hKK;clear hKK KK)));all_goals first|refine Hold.mk ?_|omega|with_reducible assumption|(simp only [InR] at *;omega)|skip)) | refine awp_block ?_ | ((refine awp_if fun T F hT hF => ?_); simp [go_sem, flds, *]; (first | refine BR.intro (fun hb => hT ?_) (fun hb => hF ?_) | refine hT ?_ | refine hF ?_); all_goals ((try clear hT); (try clear hF); (try clear T F); (try simp at hb); (try (exfalso; omega)))) | refine awp_skip ?_ | (refine awp_exit ?_; simp only [go_sem]) | refine awp_seq ?_ | (refine awp_ret ?_; simp [go_sem, flds]))))
theorem fields_spec (op : Int) : PCall Tryd.prog 20 [dI op] fun r => r = dS (flds op) := by
  have hk : op = 0 ∨ op = 1 ∨ op = 2 ∨ op = 3 ∨ op = 4 ∨ op = 5 ∨ op = 6 ∨ op = 7 ∨ op = 8 ∨ op = 9 ∨ op = 10 ∨ (op ≠ 0 ∧ op ≠ 1 ∧ op ≠ 2 ∧ op ≠ 3 ∧ op ≠ 4 ∧ op ≠ 5 ∧ op ≠ 6 ∧ op ≠ 7 ∧ op ≠ 8 ∧ op ≠ 9 ∧ op ≠ 10 ∧ ¬ (2 ≤ op ∧ op ≤ 6)) := by omega
  rcases hk with h | h | h | h | h | h | h | h | h | h | h | h <;> (try subst h) <;>
  (refine pcall_of Tryd.func20 rfl rfl Tryd.ntmps20 (rs := [.tmp 2]) (tys := [9]) rfl rfl (by simp) ?_
   (repeat' (first | ((first|refine awp_sr fun KK hKK => ?_|refine awp_r fun KK hKK => ?_);simp [go_sem, flds];((repeat' (first|(refine ag_x ?_;simp [go_sem, flds])|intro _|refine And.intro ?_ ?_|(apply hKK;clear hKK KK)));all_goals first|refine Hold.mk ?_|omega|with_reducible assumption|(simp only [InR] at *;omega)|skip)) | refine awp_block ?_ | ((refine awp_if fun T F hT hF => ?_); simp [go_sem, flds, *]; (first | refine BR.intro (fun hb => hT ?_) (fun hb => hF ?_) | refine hT ?_ | refine hF ?_); all_goals ((try clear hT); (try clear hF); (try clear T F); (try simp at hb); (try (exfalso; omega)))) | refine awp_skip ?_ | (refine awp_exit ?_; simp only [go_sem]) | refine awp_seq ?_ | (refine awp_ret ?_; simp [go_sem, flds])))) <;> simp_all [flds]
theorem idxB (l : List UInt8) (c : UInt8) : decide (0 ≤ Lib.indexByte l c) = l.contains c := by
  induction l with
  | nil => rfl
  | cons b l ih =>
    have hg := Lib.indexByte_ge l c
    have e : Lib.indexByte (b :: l) c = if b == c then 0 else if Lib.indexByte l c == -1 then -1 else Lib.indexByte l c + 1 := rfl
    rw [List.contains_cons, ← ih]
    by_cases h : b = c
    · subst h; simp [e]
    · have h2 : (c == b) = false := by simp [Ne.symm h]
      have h3 : (b == c) = false := by simp [h]
      rw [h2, Bool.false_or]
      refine decide_eq_decide.2 ?_
      rw [e, h3]
      by_cases h4 : Lib.indexByte l c = -1
      · simp [h4]
      · have : (Lib.indexByte l c == -1) = false := by simp [h4]
        rw [this]
        simp only [Bool.false_eq_true, if_false]
        omega
theorem contains_spec (l : List UInt8) (c : UInt8) : PCall Tryd.prog 72 [dS l, dS [c]] fun r => r = dB (l.contains c) := by
  have h := pcall_ext (P := Tryd.prog) (f := 72) (us := [.string ⟨l.toArray⟩, .string ⟨#[c]⟩]) (x := .bool (decide (0 ≤ Lib.indexByte l c))) ⟨_, Tryd.func72, rfl, rfl⟩ (fun w => Tryd.strings_Contains_one ⟨l.toArray⟩ c w)
  rw [idxB] at h
  exact h
theorem has_spec (op : Int) (c : UInt8) (h : 0 ≤ op) (h' : op ≤ 10) : PCall Tryd.prog 57 [dI op, dS [c]] fun r => r = dB ((flds op).contains c) := by
  refine pcall_of Tryd.func57 rfl rfl Tryd.ntmps57 (rs := [.tmp 4]) (tys := [4]) rfl rfl (by simp) ?_
  (repeat' (first | ((first|refine awp_sr fun KK hKK => ?_|refine awp_r fun KK hKK => ?_|((try refine CallT.toA ?_); refine callT_m (by first | exact .inl ⟨rfl, rfl⟩ | exact .inr rfl) (by simp [go_sem]) ?_; intro args ha; simp [go_sem] at ha; subst ha; refine ⟨_, (rfields_spec _ h h'), ?_⟩; rintro _ rfl)|((try refine CallT.toA ?_); refine callT_m (by first | exact .inl ⟨rfl, rfl⟩ | exact .inr rfl) (by simp [go_sem]) ?_; intro args ha; simp [go_sem] at ha; subst ha; refine ⟨_, (contains_spec _ _), ?_⟩; rintro _ rfl)|((try refine CallT.toA ?_); refine callT_f (by first | exact .inl ⟨rfl, rfl⟩ | exact .inr rfl) ?_; intro args ha; simp [go_sem] at ha; subst ha; refine ⟨_, (rfields_spec _ h h'), ?_⟩; rintro _ rfl; refine ⟨rfl, ?_⟩)|((try refine CallT.toA ?_); refine callT_f (by first | exact .inl ⟨rfl, rfl⟩ | exact .inr rfl) ?_; intro args ha; simp [go_sem] at ha; subst ha; refine ⟨_, (contains_spec _ _), ?_⟩; rintro _ rfl; refine ⟨rfl, ?_⟩));simp [go_sem];((repeat' (first|(refine ag_x ?_;simp [go_sem])|intro _|refine And.intro ?_ ?_|(apply hKK;clear hKK KK)));all_goals first|refine Hold.mk ?_|omega|with_reducible assumption|(simp only [InR] at *;omega)|skip)) | refine awp_block ?_ | ((refine awp_if fun T F hT hF => ?_); simp [go_sem, *]; (first | refine BR.intro (fun hb => hT ?_) (fun hb => hF ?_) | refine hT ?_ | refine hF ?_); all_goals ((try clear hT); (try clear hF); (try clear T F); (try simp at hb); (try (exfalso; omega)))) | refine awp_skip ?_ | (refine awp_exit ?_; simp only [go_sem]) | refine awp_seq ?_ | (refine awp_ret ?_; simp [go_sem])))
def fldOk (op : Int) (c : UInt8) (n lo hi : Int) : Bool := if (flds op).contains c then decide (lo ≤ n) && decide (n ≤ hi) else decide (n = 0)
theorem rfield_spec (op : Int) (c : UInt8) (n lo hi : Int) (h : 0 ≤ op) (h' : op ≤ 10) : PCall Tryd.prog 43 [dI op, dS [c], dI n, dI lo, dI hi] fun r => r = dB (fldOk op c n lo hi) := by
  refine pcall_of Tryd.func43 rfl rfl Tryd.ntmps43 (rs := [.tmp 10]) (tys := [4]) rfl rfl (by simp) ?_
  (repeat' (first | ((first|refine awp_sr fun KK hKK => ?_|refine awp_r fun KK hKK => ?_|((try refine CallT.toA ?_); refine callT_m (by first | exact .inl ⟨rfl, rfl⟩ | exact .inr rfl) (by simp [go_sem]) ?_; intro args ha; simp [go_sem] at ha; subst ha; refine ⟨_, (has_spec _ _ h h'), ?_⟩; rintro _ rfl)|((try refine CallT.toA ?_); refine callT_m (by first | exact .inl ⟨rfl, rfl⟩ | exact .inr rfl) (by simp [go_sem]) ?_; intro args ha; simp [go_sem] at ha; subst ha; refine ⟨_, (in_spec _ _ _), ?_⟩; rintro _ rfl)|((try refine CallT.toA ?_); refine callT_f (by first | exact .inl ⟨rfl, rfl⟩ | exact .inr rfl) ?_; intro args ha; simp [go_sem] at ha; subst ha; refine ⟨_, (has_spec _ _ h h'), ?_⟩; rintro _ rfl; refine ⟨rfl, ?_⟩)|((try refine CallT.toA ?_); refine callT_f (by first | exact .inl ⟨rfl, rfl⟩ | exact .inr rfl) ?_; intro args ha; simp [go_sem] at ha; subst ha; refine ⟨_, (in_spec _ _ _), ?_⟩; rintro _ rfl; refine ⟨rfl, ?_⟩));simp [go_sem, fldOk];((repeat' (first|(refine ag_x ?_;simp [go_sem, fldOk])|intro _|refine And.intro ?_ ?_|(apply hKK;clear hKK KK)));all_goals first|refine Hold.mk ?_|omega|with_reducible assumption|(simp only [InR] at *;omega)|skip)) | refine awp_block ?_ | ((refine awp_if fun T F hT hF => ?_); simp [go_sem, fldOk, *]; (first | refine BR.intro (fun hb => hT ?_) (fun hb => hF ?_) | refine hT ?_ | refine hF ?_); all_goals ((try clear hT); (try clear hF); (try clear T F); (try simp at hb); (try (exfalso; omega)))) | refine awp_skip ?_ | (refine awp_exit ?_; simp only [go_sem]) | refine awp_seq ?_ | (refine awp_ret ?_; simp [go_sem, fldOk]))) <;> simp_all [fldOk]
end Go.Proofs.YtmgbaegdkjcagaaDoor

namespace Go.Proofs.YtmgbaegdkjcagaaDoor
open Go.Eng
set_option maxRecDepth 20000

/-! splitting at a byte -/
def spl (c : UInt8) : List UInt8 → List (List UInt8)
  | [] => [[]]
  | b :: l => if b = c then [] :: spl c l else match spl c l with
    | [] => [[b]]
    | x :: r => (b :: x) :: r
theorem spl_ne (c : UInt8) : ∀ l, spl c l ≠ []
  | [] => by simp [spl]
  | b :: l => by unfold spl; split; · simp
                 · split <;> simp
theorem spl_app (c : UInt8) (y : List UInt8) : ∀ {x : List UInt8}, c ∉ x → spl c (x ++ c :: y) = x :: spl c y
  | [], _ => by simp [spl]
  | b :: x, h => by
    simp only [List.mem_cons, not_or] at h
    have ih := spl_app c y h.2
    simp only [List.cons_append, spl, ih]
    rw [if_neg (fun e => h.1 e.symm)]
theorem spl_one (c : UInt8) : ∀ {x : List UInt8}, c ∉ x → spl c x = [x]
  | [], _ => rfl
  | b :: x, h => by
    simp only [List.mem_cons, not_or] at h
    simp only [spl, spl_one c h.2]
    rw [if_neg (fun e => h.1 e.symm)]
theorem spl_len (c : UInt8) : ∀ l, (spl c l).length ≤ l.length + 1
  | [] => by simp [spl]
  | b :: l => by
    have := spl_len c l
    unfold spl
    split
    · simp; omega
    · split
      · simp
      · rename_i x r h; rw [h] at this; simp at this ⊢; omega
theorem spl_mem (c : UInt8) : ∀ l, ∀ x ∈ spl c l, x.length ≤ l.length
  | [], x, h => by simp [spl] at h; subst h; simp
  | b :: l, x, h => by
    have ih := spl_mem c l
    unfold spl at h
    split at h
    · simp at h
      rcases h with rfl | h
      · simp
      · have := ih x h; simp; omega
    · split at h
      · simp at h; subst h; simp
      · rename_i y r he
        simp at h
        rcases h with rfl | h
        · have := ih y (by rw [he]; simp); simp; omega
        · have := ih x (by rw [he]; simp [h]); simp; omega
theorem index_cons (b c : UInt8) (l : List UInt8) : Lib.index (b :: l) [c] = if b = c then 0 else if Lib.index l [c] = -1 then -1 else Lib.index l [c] + 1 := by
  conv => lhs; unfold Lib.index
  by_cases h : b = c
  · subst h; simp
  · have : ([c].isPrefixOf (b :: l)) = false := by simp [List.isPrefixOf, Ne.symm h]
    rw [this]
    simp only [Bool.false_eq_true, if_false, h]
    by_cases h2 : Lib.index l [c] = -1 <;> simp [h2]
theorem index_nil (c : UInt8) : Lib.index [] [c] = -1 := rfl
theorem index_neg (l : List UInt8) (c : UInt8) : -1 ≤ Lib.index l [c] := by
  rcases Lib.index_spec l [c] with ⟨h, _⟩ | ⟨i, h, _⟩ <;> omega
theorem count_cons (b c : UInt8) (l : List UInt8) : Lib.count (b :: l) [c] = if b = c then Lib.count l [c] + 1 else Lib.count l [c] := by
  by_cases h : b = c
  · subst h
    have := Lib.count_hit (s := b :: l) (sub := [b]) (i := 0) (by simp) (by rw [index_cons, if_pos rfl]; rfl)
    rw [this, if_pos rfl]
    simp
    omega
  · rw [if_neg h]
    by_cases h2 : Lib.index l [c] = -1
    · rw [Lib.count_miss h2, Lib.count_miss (by rw [index_cons, if_neg h, if_pos h2])]
    · have hg := index_neg l c
      obtain ⟨i, hi⟩ : ∃ i : Nat, Lib.index l [c] = i := ⟨(Lib.index l [c]).toNat, by omega⟩
      rw [Lib.count_hit (i := i) (by simp) hi, Lib.count_hit (s := b :: l) (i := i + 1) (by simp) (by rw [index_cons, if_neg h, if_neg h2, hi]; rfl)]
      simp
theorem splitK_spl (c : UInt8) : ∀ (l : List UInt8), Lib.splitK [c] 0 (Lib.count l [c]) l = spl c l
  | [] => by rw [Lib.count_miss (index_nil c)]; rfl
  | b :: l => by
    have ih := splitK_spl c l
    rw [count_cons]
    by_cases h : b = c
    · subst h
      rw [if_pos rfl]
      unfold Lib.splitK spl
      rw [index_cons, if_pos rfl, if_pos rfl]
      simp [ih]
    · rw [if_neg h]
      unfold spl
      rw [if_neg h, ← ih]
      by_cases h2 : Lib.index l [c] = -1
      · rw [Lib.count_miss h2]; rfl
      · have hg := index_neg l c
        obtain ⟨i, hi⟩ : ∃ i : Nat, Lib.index l [c] = i := ⟨(Lib.index l [c]).toNat, by omega⟩
        rw [Lib.count_hit (i := i) (by simp) hi, Nat.add_comm]
        simp only [Lib.splitK]
        rw [index_cons, if_neg h, if_neg h2, hi]
        have e1 : ((i : Int) + 1).toNat = i + 1 := by omega
        have e2 : (((i : Int) + 1) == -1) = false := by rw [beq_eq_false_iff_ne]; omega
        have e3 : ((i : Int) == -1) = false := by rw [beq_eq_false_iff_ne]; omega
        simp [e1, e2, e3]
theorem splitB_spl (c : UInt8) (s : ByteArray) : (Lib.splitB ⟨#[c]⟩ 0 (Lib.countB s ⟨#[c]⟩) s).map (·.data.toList) = spl c s.data.toList := by
  rw [Lib.splitB_data]
  exact splitK_spl c s.data.toList
theorem countB_spl (c : UInt8) (s : ByteArray) : Lib.countB s ⟨#[c]⟩ + 1 = (spl c s.data.toList).length := by
  show Lib.count s.data.toList [c] + 1 = _
  generalize s.data.toList = l
  induction l with
  | nil => rw [Lib.count_miss (index_nil c)]; rfl
  | cons b l ih =>
    rw [count_cons]
    unfold spl
    split
    · simp; omega
    · split
      · rename_i h; exact absurd h (spl_ne c l)
      · rename_i x r h; rw [h] at ih; simpa using ih

/-! numerals -/
theorem ofNat_toNat {k : Nat} (h : k < 256) : (UInt8.ofNat k).toNat = k := by simp [UInt8.toNat_ofNat']; omega
theorem parse_app (r : List UInt8) : ∀ (l : List UInt8) (a : Nat), Lib.parseUint10 a (l ++ r) = match Lib.parseUint10 a l with
    | .ok v => Lib.parseUint10 v r
    | x => x
  | [], a => rfl
  | c :: l, a => by
    simp only [List.cons_append, Lib.parseUint10]
    split
    · split
      · rfl
      · split
        · rfl
        · exact parse_app r l _
    · rfl
theorem parse_dec : ∀ (u : Nat), u < 18446744073709551616 → Lib.parseUint10 0 (Lib.decDigits u) = .ok u := by
  intro u
  induction u using Nat.strongRecOn with
  | _ u ih =>
    intro hu
    rw [Lib.decDigits]
    by_cases h : u < 10
    · rw [dif_pos h]
      simp only [Lib.parseUint10]
      rw [ofNat_toNat (by omega), if_pos (by omega), if_neg (by omega), if_neg (by omega)]
      congr 1
      omega
    · rw [dif_neg h, parse_app, ih (u / 10) (by omega) (by omega)]
      simp only [Lib.parseUint10]
      rw [ofNat_toNat (by omega)]
      rw [if_pos (by omega), if_neg (by omega), if_neg (by omega)]
      congr 1
      omega
theorem dec_mem (u : Nat) : ∀ b ∈ Lib.decDigits u, 48 ≤ b.toNat ∧ b.toNat ≤ 57 := by
  induction u using Nat.strongRecOn with
  | _ u ih =>
    rw [Lib.decDigits]
    split
    · intro b hb
      rw [List.mem_singleton] at hb
      subst hb
      rw [ofNat_toNat (by omega)]
      omega
    · intro b hb
      rw [List.mem_append, List.mem_singleton] at hb
      rcases hb with hb | hb
      · exact ih (u / 10) (by omega) b hb
      · subst hb
        rw [ofNat_toNat (by omega)]
        omega
theorem dec_ne (u : Nat) : Lib.decDigits u ≠ [] := by
  rw [Lib.decDigits]; split <;> simp
theorem itoa_mem (n : Int) : ∀ b ∈ Lib.itoa n, b.toNat = 45 ∨ (48 ≤ b.toNat ∧ b.toNat ≤ 57) := by
  intro b hb
  unfold Lib.itoa at hb
  split at hb
  · simp at hb
    rcases hb with rfl | hb
    · exact .inl rfl
    · exact .inr (dec_mem _ b hb)
  · exact .inr (dec_mem _ b hb)
theorem itoa_no (n : Int) (c : UInt8) (h : c.toNat ≠ 45 ∧ ¬ (48 ≤ c.toNat ∧ c.toNat ≤ 57)) : c ∉ Lib.itoa n := fun hb => by
  rcases itoa_mem n c hb with h' | h'
  · exact h.1 h'
  · exact h.2 h'
theorem itoa_ne (n : Int) : Lib.itoa n ≠ [] := by
  unfold Lib.itoa; split
  · simp
  · exact dec_ne _
theorem atoi_itoa {n : Int} (h : InR n) : Lib.atoiAll (Lib.itoa n) = .ok n := by
  unfold Lib.itoa
  by_cases hn : n < 0
  · rw [if_pos hn]
    obtain ⟨u, hu⟩ : ∃ u : Nat, n = -(u : Int) := ⟨n.natAbs, by omega⟩
    subst hu
    simp only [Int.natAbs_neg, Int.natAbs_natCast]
    unfold Lib.atoiAll
    simp only [Lib.parseMag]
    have e : (45 : UInt8).toNat = 45 := rfl
    simp only [e, or_true, if_true]
    rw [if_neg (dec_ne _), parse_dec u (by simp [InR] at h; omega)]
    simp [InR] at h ⊢
    omega
  · rw [if_neg hn]
    obtain ⟨u, hu⟩ : ∃ u : Nat, n = (u : Int) := ⟨n.toNat, by omega⟩
    subst hu
    simp only [Int.toNat_natCast]
    unfold Lib.atoiAll
    have hne := dec_ne u
    have hm := dec_mem u
    have hp := parse_dec u (by simp [InR] at h; omega)
    cases hd : Lib.decDigits u with
    | nil => exact absurd hd hne
    | cons c r =>
      rw [hd] at hm hp
      have hc := hm c (by simp)
      simp only
      rw [if_neg (by omega)]
      simp only [Lib.parseMag]
      rw [if_neg (by simp), hp]
      simp only [InR] at h
      have h45 : ¬ c.toNat = 45 := by omega
      simp only [h45, not_false_eq_true, true_and, false_and, if_false]
      rw [if_neg (by omega)]
end Go.Proofs.YtmgbaegdkjcagaaDoor

namespace Go.Proofs.YtmgbaegdkjcagaaDoor
open Go.Eng
set_option maxRecDepth 20000
attribute [local irreducible] AG CallA CallT AWp PCall ACall

def fidx {α : Type} (p : α → Bool) : List α → Int
  | [] => -1
  | x :: l => if p x then 0 else if fidx p l = -1 then -1 else fidx p l + 1
theorem fidx_ge {α : Type} (p : α → Bool) (l : List α) : -1 ≤ fidx p l := by
  induction l with
  | nil => simp [fidx]
  | cons x l ih =>
    simp only [fidx]
    split
    · omega
    · split <;> omega
theorem fidx_at {α : Type} {p : α → Bool} : ∀ {l : List α} {i : Nat} {x : α}, (l.take i).any p = false → l[i]? = some x → p x = true → fidx p l = i
  | [], i, x, _, h, _ => by simp at h
  | y :: l, 0, x, _, h, hp => by simp at h; subst h; simp [fidx, hp]
  | y :: l, i + 1, x, h1, h, hp => by
    simp only [List.take_succ_cons, List.any_cons, Bool.or_eq_false_iff] at h1
    have ih := fidx_at h1.2 (by simpa using h) hp
    simp only [fidx, h1.1, Bool.false_eq_true, if_false, ih]
    rw [if_neg (by omega)]
    simp
theorem fidx_none {α : Type} {p : α → Bool} {l : List α} (h : l.any p = false) : fidx p l = -1 := by
  induction l with
  | nil => rfl
  | cons x l ih =>
    simp only [List.any_cons, Bool.or_eq_false_iff] at h
    simp [fidx, h.1, ih h.2]
theorem fidx_any {α : Type} (p : α → Bool) (l : List α) : decide (0 ≤ fidx p l) = l.any p := by
  induction l with
  | nil => rfl
  | cons x l ih =>
    have hg := fidx_ge p l
    simp only [List.any_cons]
    rw [← ih]
    by_cases h : p x = true
    · simp [fidx, h]
    · have h := Bool.eq_false_iff.2 h
      simp only [fidx, h, Bool.false_eq_true, if_false, Bool.false_or]
      refine decide_eq_decide.2 ?_
      split <;> omega
theorem take_any {α : Type} {p : α → Bool} {l : List α} {i : Nat} {x : α} (h : (l.take i).any p = false) (hx : l[i]? = some x) (hp : p x = false) : (l.take (i + 1)).any p = false := by
  rw [List.take_add_one, hx, List.any_append, h]
  simp [hp]

@[go_sem] abbrev cB (b : UInt8) : List D := [.v (.int .u8 b.toNat)]
@[go_sem] abbrev dBs (l : List UInt8) : D := .sl 1 (l.map cB)
def isB (c : Int) (b : UInt8) : Bool := decide (c = b.toNat)

theorem indexB_spec (l : List UInt8) (c : Int) (hl : l.length ≤ 2 ^ 40) : PCall Tryd.prog 67 [dBs l, .v (.int .u8 c)] fun r => r = dI (fidx (isB c) l) := by 
  refine pcall_of Tryd.func67 rfl rfl Tryd.ntmps67 (rs := [.tmp 4]) (tys := [3]) rfl rfl (by simp) ?_
  (refine awp_sr fun KK hKK => ?_; simp [go_sem]; ((repeat' (first|(refine ag_x ?_;simp [go_sem])|intro _|refine And.intro ?_ ?_|(apply hKK;clear hKK KK)));all_goals first|refine Hold.mk ?_|omega|with_reducible assumption|(simp only [InR] at *;omega)|skip))
  refine awp_seq_k fun K1 hK1 => ?_
  (refine awp_sr fun KK hKK => ?_; simp [go_sem]; ((repeat' (first|(refine ag_x ?_;simp [go_sem])|intro _|refine And.intro ?_ ?_|(apply hKK;clear hKK KK)));all_goals first|refine Hold.mk ?_|omega|with_reducible assumption|(simp only [InR] at *;omega)|skip))
  refine awp_block ?_
  refine awp_loop (σ := Nat) (fun i => ⟨[(0, dBs l), (1, .v (.int .u8 c)), (7, dI l.length), (8, dI i)], []⟩) (fun i => i ≤ l.length ∧ (l.take i).any (isB c) = false) (fun i => l.length - i) 0 ?_ ?_ ?_
  · (refine cov_of ?_ ?_ <;> simp [go_sem])
  · simp
  rintro i ⟨hi, hany⟩
  (refine awp_sr fun KK hKK => ?_; simp [go_sem]; ((repeat' (first|(refine ag_x ?_;simp [go_sem])|intro _|refine And.intro ?_ ?_|(apply hKK;clear hKK KK)));all_goals first|refine Hold.mk ?_|omega|with_reducible assumption|(simp only [InR] at *;omega)|skip))
  refine awp_seq_k fun K2 hK2 => ?_
  (refine awp_if fun T F hT hF => ?_; simp [go_sem]; refine BR.intro (fun h3 => hT ?_) (fun h3 => hF ?_); all_goals clear hT hF T F; try simp at h3) 
  · refine awp_skip ?_
    refine hK2 _ ?_; clear hK2
    obtain ⟨x, hx⟩ : ∃ x, l[i]? = some x := ⟨_, List.getElem?_eq_getElem h3⟩
    refine awp_seq_k fun K4 hK4 => ?_
    refine awp_block ?_
    (refine awp_sr fun KK hKK => ?_; simp [go_sem]; ((repeat' (first|(refine ag_x ?_;simp [go_sem])|intro _|refine And.intro ?_ ?_|(apply hKK;clear hKK KK)));all_goals first|refine Hold.mk ?_|omega|with_reducible assumption|(simp only [InR] at *;omega)|skip))
    (refine awp_sr fun KK hKK => ?_; simp [go_sem, hx]; ((repeat' (first|(refine ag_x ?_;simp [go_sem, hx])|intro _|refine And.intro ?_ ?_|(apply hKK;clear hKK KK)));all_goals first|refine Hold.mk ?_|omega|with_reducible assumption|(simp only [InR] at *;omega)|skip))
    (refine awp_if fun T F hT hF => ?_; simp [go_sem]; refine BR.intro (fun h5 => hT ?_) (fun h5 => hF ?_); all_goals clear hT hF T F; try simp at h5)
    · (refine awp_sr fun KK hKK => ?_; simp [go_sem]; ((repeat' (first|(refine ag_x ?_;simp [go_sem])|intro _|refine And.intro ?_ ?_|(apply hKK;clear hKK KK)));all_goals first|refine Hold.mk ?_|omega|with_reducible assumption|(simp only [InR] at *;omega)|skip))
      (refine awp_ret ?_; simp [go_sem])
      rw [fidx_at hany hx (by simp [isB, h5])]
    · refine awp_skip ?_
      simp only [go_sem]
      refine hK4 _ ?_; clear hK4
      (refine awp_r fun KK hKK => ?_; simp [go_sem]; ((repeat' (first|(refine ag_x ?_;simp [go_sem])|intro _|refine And.intro ?_ ?_|(apply hKK;clear hKK KK)));all_goals first|refine Hold.mk ?_|omega|with_reducible assumption|(simp only [InR] at *;omega)|skip))
      refine ⟨i + 1, ?_, ⟨h3, ?_⟩, by omega⟩
      · (refine cov_of ?_ ?_ <;> simp [go_sem])
      · exact take_any hany hx (by simp [isB, h5])
  · refine awp_exit ?_
    simp only [go_sem]
    refine hK1 _ ?_; clear hK1
    (refine awp_sr fun KK hKK => ?_; simp [go_sem]; ((repeat' (first|(refine ag_x ?_;simp [go_sem])|intro _|refine And.intro ?_ ?_|(apply hKK;clear hKK KK)));all_goals first|refine Hold.mk ?_|omega|with_reducible assumption|(simp only [InR] at *;omega)|skip))
    (refine awp_ret ?_; simp [go_sem])
    have : i = l.length := by omega
    subst this
    rw [List.take_length] at hany
    rw [fidx_none hany]
theorem containsB_spec (l : List UInt8) (c : Int) (hl : l.length ≤ 2 ^ 40) : PCall Tryd.prog 54 [dBs l, .v (.int .u8 c)] fun r => r = dB (l.any (isB c)) := by
  refine pcall_of Tryd.func54 rfl rfl Tryd.ntmps54 (rs := [.tmp 4]) (tys := [4]) rfl rfl (by simp) ?_
  (refine awp_sr fun KK hKK => ?_; simp [go_sem]; ((repeat' (first|(refine ag_x ?_;simp [go_sem])|intro _|refine And.intro ?_ ?_|(apply hKK;clear hKK KK)));all_goals first|refine Hold.mk ?_|omega|with_reducible assumption|(simp only [InR] at *;omega)|skip))
  (refine awp_sr fun KK hKK => ?_; simp [go_sem]; ((repeat' (first|(refine ag_x ?_;simp [go_sem])|intro _|refine And.intro ?_ ?_|(apply hKK;clear hKK KK)));all_goals first|refine Hold.mk ?_|omega|with_reducible assumption|(simp only [InR] at *;omega)|skip))
  ((try refine CallT.toA ?_); refine callT_m (by first | exact .inl ⟨rfl, rfl⟩ | exact .inr rfl) (by simp [go_sem]) ?_; intro args ha; simp [go_sem] at ha; subst ha; refine ⟨_, (indexB_spec _ _ hl), ?_⟩; rintro _ rfl; simp [go_sem]; ((repeat' (first|(refine ag_x ?_;simp [go_sem])|intro _|refine And.intro ?_ ?_|(apply hKK;clear hKK KK)));all_goals first|refine Hold.mk ?_|omega|with_reducible assumption|(simp only [InR] at *;omega)|skip))
  (refine awp_ret ?_; simp [go_sem, fidx_any])
def fldAt (c : Int) : Nat := if c = 68 then 1 else if c = 65 then 2 else if c = 66 then 3 else if c = 78 then 4 else 5
theorem field_spec (i : Ins) (c : Int) : PCall Tryd.prog 21 [.rd (cIns i), .v (.int .u8 c)] fun r => r = .rd ((cIns i).drop (fldAt c)) := by
  refine pcall_of Tryd.func21 rfl rfl Tryd.ntmps21 (rs := [.tmp 4]) (tys := [66]) rfl rfl (by simp) ?_
  (repeat' (first | ((first|refine awp_sr fun KK hKK => ?_|refine awp_r fun KK hKK => ?_);simp [go_sem, fldAt];((repeat' (first|(refine ag_x ?_;simp [go_sem, fldAt])|intro _|refine And.intro ?_ ?_|(apply hKK;clear hKK KK)));all_goals first|refine Hold.mk ?_|omega|with_reducible assumption|(simp only [InR] at *;omega)|skip)) | refine awp_block ?_ | ((refine awp_if fun T F hT hF => ?_); simp [go_sem, fldAt, *]; (first | refine BR.intro (fun hb => hT ?_) (fun hb => hF ?_) | refine hT ?_ | refine hF ?_); all_goals ((try clear hT); (try clear hF); (try clear T F); (try simp at hb); (try (exfalso; omega)))) | refine awp_skip ?_ | (refine awp_exit ?_; simp only [go_sem]) | refine awp_seq ?_ | (refine awp_ret ?_; simp [go_sem, fldAt]))) <;> simp_all [fldAt]
end Go.Proofs.YtmgbaegdkjcagaaDoor

namespace Go.Proofs.YtmgbaegdkjcagaaDoor
open Go.Eng
set_option maxRecDepth 20000
attribute [local irreducible] AG CallA CallT AWp PCall ACall

def ltr : List Int := [68, 65, 66, 78, 88]
def fVal (i : Ins) (c : Int) : Int := if c = 68 then i.d else if c = 65 then i.a else if c = 66 then i.b else if c = 78 then i.n else i.x
theorem field_spec' (i : Ins) (c : Int) : PCall Tryd.prog 21 [.rd (cIns i), .v (.int .u8 c)] fun r => r = .rd (dI (fVal i c) :: (cIns i).drop (fldAt c + 1)) := by
  refine (field_spec i c).mono ?_
  rintro r rfl
  unfold fldAt fVal
  split
  · rfl
  · split
    · rfl
    · split
      · rfl
      · split <;> rfl
def fOk (regs nex : Int) (i : Ins) (c : Int) : Bool :=
  if !(flds i.op).any (isB c) then decide (fVal i c = 0) else if c = 78 then isW (fVal i c) else if c = 88 then decide (0 ≤ fVal i c) && decide (fVal i c < nex) else decide (0 ≤ fVal i c) && decide (fVal i c < regs)
def insOk (regs nex : Int) (i : Ins) : Bool := !(flds i.op).isEmpty && ltr.all (fOk regs nex i)
theorem flds_len (op : Int) : (flds op).length ≤ 4 := by
  unfold flds
  repeat' split
  all_goals simp
theorem take_all {α : Type} {p : α → Bool} {l : List α} {i : Nat} {x : α} (h : (l.take i).all p = true) (hx : l[i]? = some x) (hp : p x = true) : (l.take (i + 1)).all p = true := by
  rw [List.take_add_one, hx, List.all_append, h]
  simp [hp]
theorem all_at {α : Type} {p : α → Bool} {l : List α} {i : Nat} {x : α} (hx : l[i]? = some x) (hp : p x = false) : l.all p = false := by
  rw [List.all_eq_false]
  exact ⟨x, List.mem_of_getElem? hx, by simp [hp]⟩

theorem valid_spec (t : Tr) (i : Ins) : PCall Tryd.prog 38 [dTr t, .agg (cIns i)] fun r => r = dB (insOk t.regs t.exits.length i) := by 
  have hfl := flds_len i.op
  refine pcall_of Tryd.func38 rfl rfl Tryd.ntmps38 (rs := [.tmp 4]) (tys := [4]) rfl rfl (by simp) ?_
  (refine awp_sr fun KK hKK => ?_; simp [go_sem]; ((repeat' (first|(refine ag_x ?_;simp [go_sem])|intro _|refine And.intro ?_ ?_|(apply hKK;clear hKK KK)));all_goals first|refine Hold.mk ?_|omega|with_reducible assumption|(simp only [InR] at *;omega)|skip))
  refine awp_frzbox 2 rfl rfl ?_
  refine awp_frzbox 3 rfl rfl ?_
  simp only [go_sem]
  (refine awp_sr fun KK hKK => ?_; simp [go_sem]; ((repeat' (first|(refine ag_x ?_;simp [go_sem])|intro _|refine And.intro ?_ ?_|(apply hKK;clear hKK KK)));all_goals first|refine Hold.mk ?_|omega|with_reducible assumption|(simp only [InR] at *;omega)|skip))
  ((try refine CallT.toA ?_); refine callT_m (by first | exact .inl ⟨rfl, rfl⟩ | exact .inr rfl) (by simp [go_sem]) ?_; intro args ha; simp [go_sem] at ha; subst ha; refine ⟨_, (fields_spec _), ?_⟩; rintro _ rfl; simp [go_sem]; ((repeat' (first|(refine ag_x ?_;simp [go_sem])|intro _|refine And.intro ?_ ?_|(apply hKK;clear hKK KK)));all_goals first|refine Hold.mk ?_|omega|with_reducible assumption|(simp only [InR] at *;omega)|skip))
  refine awp_seq_k fun K1 hK1 => ?_
  (refine awp_sr fun KK hKK => ?_; simp [go_sem]; ((repeat' (first|(refine ag_x ?_;simp [go_sem])|intro _|refine And.intro ?_ ?_|(apply hKK;clear hKK KK)));all_goals first|refine Hold.mk ?_|omega|with_reducible assumption|(simp only [InR] at *;omega)|skip))
  (refine awp_if fun T F hT hF => ?_; simp [go_sem]; refine BR.intro (fun h2 => hT ?_) (fun h2 => hF ?_); all_goals clear hT hF T F; try simp at h2) 
  · (refine awp_sr fun KK hKK => ?_; simp [go_sem]; ((repeat' (first|(refine ag_x ?_;simp [go_sem])|intro _|refine And.intro ?_ ?_|(apply hKK;clear hKK KK)));all_goals first|refine Hold.mk ?_|omega|with_reducible assumption|(simp only [InR] at *;omega)|skip))
    (refine awp_ret ?_; simp [go_sem, insOk, h2])
  · refine awp_skip ?_
    refine hK1 _ ?_; clear hK1
    refine awp_seq_k fun K3 hK3 => ?_
    (refine awp_sr fun KK hKK => ?_; simp [go_sem]; ((repeat' (first|(refine ag_x ?_;simp [go_sem])|intro _|refine And.intro ?_ ?_|(apply hKK;clear hKK KK)));all_goals first|refine Hold.mk ?_|omega|with_reducible assumption|(simp only [InR] at *;omega)|skip))
    refine awp_block ?_
    refine awp_loop (σ := Nat) (fun k => ⟨[(2, .rd [dI t.regs, .sl 6 (t.code.map cIns), .sl 2 (t.exits.map cExi)]), (3, .rd (cIns i)), (5, dS (flds i.op)), (15, .sl 1 (ltr.map fun c => [.v (.int .u8 c)])), (16, dI 5), (17, dI k)], []⟩) (fun k => k ≤ 5 ∧ (ltr.take k).all (fOk t.regs t.exits.length i) = true) (fun k => 5 - k) 0 ?_ ?_ ?_
    · (refine cov_of ?_ ?_ <;> simp [go_sem, ltr])
    · simp
    rintro k ⟨hk, hall⟩
    (refine awp_sr fun KK hKK => ?_; simp [go_sem]; ((repeat' (first|(refine ag_x ?_;simp [go_sem])|intro _|refine And.intro ?_ ?_|(apply hKK;clear hKK KK)));all_goals first|refine Hold.mk ?_|omega|with_reducible assumption|(simp only [InR] at *;omega)|skip))
    refine awp_seq_k fun K4 hK4 => ?_
    (refine awp_if fun T F hT hF => ?_; simp [go_sem]; refine BR.intro (fun h5 => hT ?_) (fun h5 => hF ?_); all_goals clear hT hF T F; try simp at h5) 
    · refine awp_skip ?_
      refine hK4 _ ?_; clear hK4
      obtain ⟨c, hc⟩ : ∃ x, ltr[k]? = some x := ⟨_, List.getElem?_eq_getElem (by simp [ltr]; omega)⟩
      refine awp_seq_k fun K6 hK6 => ?_
      refine awp_block ?_
      (refine awp_sr fun KK hKK => ?_; simp [go_sem, hc]; ((repeat' (first|(refine ag_x ?_;simp [go_sem, hc])|intro _|refine And.intro ?_ ?_|(apply hKK;clear hKK KK)));all_goals first|refine Hold.mk ?_|omega|with_reducible assumption|(simp only [InR] at *;omega)|skip))
      (refine awp_sr fun KK hKK => ?_; simp [go_sem]; ((repeat' (first|(refine ag_x ?_;simp [go_sem])|intro _|refine And.intro ?_ ?_|(apply hKK;clear hKK KK)));all_goals first|refine Hold.mk ?_|omega|with_reducible assumption|(simp only [InR] at *;omega)|skip))
      ((try refine CallT.toA ?_); refine callT_m (by first | exact .inl ⟨rfl, rfl⟩ | exact .inr rfl) (by simp [go_sem]) ?_; intro args ha; simp [go_sem] at ha; subst ha; refine ⟨_, (field_spec' _ _), ?_⟩; rintro _ rfl; simp [go_sem]; ((repeat' (first|(refine ag_x ?_;simp [go_sem])|intro _|refine And.intro ?_ ?_|(apply hKK;clear hKK KK)));all_goals first|refine Hold.mk ?_|omega|with_reducible assumption|(simp only [InR] at *;omega)|skip))
      refine awp_block ?_
      (refine awp_sr fun KK hKK => ?_; simp [go_sem]; ((repeat' (first|(refine ag_x ?_;simp [go_sem])|intro _|refine And.intro ?_ ?_|(apply hKK;clear hKK KK)));all_goals first|refine Hold.mk ?_|omega|with_reducible assumption|(simp only [InR] at *;omega)|skip))
      ((try refine CallT.toA ?_); refine callT_m (by first | exact .inl ⟨rfl, rfl⟩ | exact .inr rfl) (by simp [go_sem]) ?_; intro args ha; simp [go_sem] at ha; subst ha; refine ⟨_, (containsB_spec _ _ (by omega)), ?_⟩; rintro _ rfl; simp [go_sem]; ((repeat' (first|(refine ag_x ?_;simp [go_sem])|intro _|refine And.intro ?_ ?_|(apply hKK;clear hKK KK)));all_goals first|refine Hold.mk ?_|omega|with_reducible assumption|(simp only [InR] at *;omega)|skip))
      have good : fOk t.regs t.exits.length i c = true → (ltr.take (k + 1)).all (fOk t.regs t.exits.length i) = true := take_all hall hc
      have bad : fOk t.regs t.exits.length i c = false → insOk t.regs t.exits.length i = false := fun h => by simp [insOk, all_at hc h]
      have next : ∀ S', Cov S' ⟨[(2, .rd [dI t.regs, .sl 6 (t.code.map cIns), .sl 2 (t.exits.map cExi)]), (3, .rd (cIns i)), (5, dS (flds i.op)), (15, .sl 1 (ltr.map fun c => [.v (.int .u8 c)])), (16, dI 5), (17, dI k)], []⟩ → fOk t.regs t.exits.length i c = true → K6 S' := fun S' hS hg => by
        refine hK6 _ ?_
        refine awp_cov hS ?_
        (refine awp_r fun KK hKK => ?_; simp [go_sem]; ((repeat' (first|(refine ag_x ?_;simp [go_sem])|intro _|refine And.intro ?_ ?_|(apply hKK;clear hKK KK)));all_goals first|refine Hold.mk ?_|omega|with_reducible assumption|(simp only [InR] at *;omega)|skip))
        refine ⟨k + 1, ?_, ⟨by omega, good hg⟩, by omega⟩
        (refine cov_of ?_ ?_ <;> simp [go_sem, ltr])
      clear hK6
      (refine awp_if fun T F hT hF => ?_; simp [go_sem]; refine BR.intro (fun h7 => hT ?_) (fun h7 => hF ?_); all_goals clear hT hF T F; try simp at h7) 
      · have h7 : (flds i.op).any (isB c) = false := by simpa using h7
        (refine awp_sr fun KK hKK => ?_; simp [go_sem]; ((repeat' (first|(refine ag_x ?_;simp [go_sem])|intro _|refine And.intro ?_ ?_|(apply hKK;clear hKK KK)));all_goals first|refine Hold.mk ?_|omega|with_reducible assumption|(simp only [InR] at *;omega)|skip))
        (refine awp_if fun T F hT hF => ?_; simp [go_sem]; refine BR.intro (fun h8 => hT ?_) (fun h8 => hF ?_); all_goals clear hT hF T F; try simp at h8) 
        · (refine awp_sr fun KK hKK => ?_; simp [go_sem]; ((repeat' (first|(refine ag_x ?_;simp [go_sem])|intro _|refine And.intro ?_ ?_|(apply hKK;clear hKK KK)));all_goals first|refine Hold.mk ?_|omega|with_reducible assumption|(simp only [InR] at *;omega)|skip))
          (refine awp_ret ?_; simp [go_sem])
          exact bad (by simp [fOk, h7, h8])
        · refine awp_skip ?_
          refine next _ ?_ (by simp [fOk, h7, h8])
          (refine cov_of ?_ ?_ <;> simp [go_sem])
      · have h7 : (flds i.op).any (isB c) = true := by simpa using h7
        have e : fOk t.regs t.exits.length i c = (if c = 78 then isW (fVal i c) else if c = 88 then decide (0 ≤ fVal i c) && decide (fVal i c < t.exits.length) else decide (0 ≤ fVal i c) && decide (fVal i c < t.regs)) := by
          simp only [fOk, h7, Bool.not_true, Bool.false_eq_true, if_false]
        (refine awp_sr fun KK hKK => ?_; simp [go_sem]; ((repeat' (first|(refine ag_x ?_;simp [go_sem])|intro _|refine And.intro ?_ ?_|(apply hKK;clear hKK KK)));all_goals first|refine Hold.mk ?_|omega|with_reducible assumption|(simp only [InR] at *;omega)|skip))
        (refine awp_if fun T F hT hF => ?_; simp [go_sem]; refine BR.intro (fun h9 => hT ?_) (fun h9 => hF ?_); all_goals clear hT hF T F; try simp at h9) 
        · (refine awp_sr fun KK hKK => ?_; simp [go_sem]; ((repeat' (first|(refine ag_x ?_;simp [go_sem])|intro _|refine And.intro ?_ ?_|(apply hKK;clear hKK KK)));all_goals first|refine Hold.mk ?_|omega|with_reducible assumption|(simp only [InR] at *;omega)|skip))
          ((try refine CallT.toA ?_); refine callT_m (by first | exact .inl ⟨rfl, rfl⟩ | exact .inr rfl) (by simp [go_sem]) ?_; intro args ha; simp [go_sem] at ha; subst ha; refine ⟨_, (word_spec _), ?_⟩; rintro _ rfl; simp [go_sem]; ((repeat' (first|(refine ag_x ?_;simp [go_sem])|intro _|refine And.intro ?_ ?_|(apply hKK;clear hKK KK)));all_goals first|refine Hold.mk ?_|omega|with_reducible assumption|(simp only [InR] at *;omega)|skip))
          (refine awp_if fun T F hT hF => ?_; simp [go_sem]; refine BR.intro (fun h10 => hT ?_) (fun h10 => hF ?_); all_goals clear hT hF T F; try simp at h10) 
          · (refine awp_sr fun KK hKK => ?_; simp [go_sem]; ((repeat' (first|(refine ag_x ?_;simp [go_sem])|intro _|refine And.intro ?_ ?_|(apply hKK;clear hKK KK)));all_goals first|refine Hold.mk ?_|omega|with_reducible assumption|(simp only [InR] at *;omega)|skip))
            (refine awp_ret ?_; simp [go_sem])
            exact bad (by rw [e, if_pos h9]; exact h10)
          · refine awp_skip ?_
            refine next _ ?_ (by rw [e, if_pos h9]; exact h10)
            (refine cov_of ?_ ?_ <;> simp [go_sem, h9])
        · (refine awp_sr fun KK hKK => ?_; simp [go_sem]; ((repeat' (first|(refine ag_x ?_;simp [go_sem])|intro _|refine And.intro ?_ ?_|(apply hKK;clear hKK KK)));all_goals first|refine Hold.mk ?_|omega|with_reducible assumption|(simp only [InR] at *;omega)|skip))
          (refine awp_if fun T F hT hF => ?_; simp [go_sem]; refine BR.intro (fun h11 => hT ?_) (fun h11 => hF ?_); all_goals clear hT hF T F; try simp at h11) 
          · (refine awp_sr fun KK hKK => ?_; simp [go_sem]; ((repeat' (first|(refine ag_x ?_;simp [go_sem])|intro _|refine And.intro ?_ ?_|(apply hKK;clear hKK KK)));all_goals first|refine Hold.mk ?_|omega|with_reducible assumption|(simp only [InR] at *;omega)|skip))
            (refine awp_if fun T F hT hF => ?_; simp [go_sem]; refine BR.intro (fun h12 => hT ?_) (fun h12 => hF ?_); all_goals clear hT hF T F; try simp at h12) 
            · (refine awp_sr fun KK hKK => ?_; simp [go_sem]; ((repeat' (first|(refine ag_x ?_;simp [go_sem])|intro _|refine And.intro ?_ ?_|(apply hKK;clear hKK KK)));all_goals first|refine Hold.mk ?_|omega|with_reducible assumption|(simp only [InR] at *;omega)|skip))
              (refine awp_ret ?_; simp [go_sem])
              exact bad (by rw [e, if_neg h9, if_pos h11]; simp; omega)
            · refine awp_skip ?_
              refine next _ ?_ (by rw [e, if_neg h9, if_pos h11]; simp; omega)
              (refine cov_of ?_ ?_ <;> simp [go_sem, h11])
          · (refine awp_sr fun KK hKK => ?_; simp [go_sem]; ((repeat' (first|(refine ag_x ?_;simp [go_sem])|intro _|refine And.intro ?_ ?_|(apply hKK;clear hKK KK)));all_goals first|refine Hold.mk ?_|omega|with_reducible assumption|(simp only [InR] at *;omega)|skip))
            (refine awp_if fun T F hT hF => ?_; simp [go_sem]; refine BR.intro (fun h13 => hT ?_) (fun h13 => hF ?_); all_goals clear hT hF T F; try simp at h13) 
            · (refine awp_sr fun KK hKK => ?_; simp [go_sem]; ((repeat' (first|(refine ag_x ?_;simp [go_sem])|intro _|refine And.intro ?_ ?_|(apply hKK;clear hKK KK)));all_goals first|refine Hold.mk ?_|omega|with_reducible assumption|(simp only [InR] at *;omega)|skip))
              (refine awp_ret ?_; simp [go_sem])
              exact bad (by rw [e, if_neg h9, if_neg h11]; simp; omega)
            · refine awp_skip ?_
              refine next _ ?_ (by rw [e, if_neg h9, if_neg h11]; simp; omega)
              (refine cov_of ?_ ?_ <;> simp [go_sem])
    · refine awp_exit ?_
      simp only [go_sem]
      refine hK3 _ ?_; clear hK3
      (refine awp_sr fun KK hKK => ?_; simp [go_sem]; ((repeat' (first|(refine ag_x ?_;simp [go_sem])|intro _|refine And.intro ?_ ?_|(apply hKK;clear hKK KK)));all_goals first|refine Hold.mk ?_|omega|with_reducible assumption|(simp only [InR] at *;omega)|skip))
      (refine awp_ret ?_; simp [go_sem])
      have : k = 5 := by omega
      subst this
      have e : ltr.take 5 = ltr := rfl
      rw [e] at hall
      simp [insOk, hall, h2]
end Go.Proofs.YtmgbaegdkjcagaaDoor

namespace Go.Proofs.YtmgbaegdkjcagaaDoor
open Go.Eng
set_option maxRecDepth 20000
attribute [local irreducible] AG CallA CallT AWp PCall ACall AgC

theorem indexF_spec (l : List Int) (df : D) (f : Nat) (caps : List D) (p : Int → Bool) (hf : FunD df f caps) (hp : ∀ x ∈ l, PCall Tryd.prog f (dI x :: caps) fun r => r = dB (p x)) (hl : l.length ≤ 2 ^ 40) : PCall Tryd.prog 50 [dIs l, df] fun r => r = dI (fidx p l) := by 
  have hf' := hf
  rcases hf with ⟨rfl, rfl⟩ | rfl
  · refine pcall_of Tryd.func50 rfl rfl Tryd.ntmps50 (rs := [.tmp 4]) (tys := [3]) rfl rfl (by simp) ?_
    (refine awp_sr fun KK hKK => ?_; simp [go_sem]; ((repeat' (first|(refine ag_x ?_;simp [go_sem])|intro _|refine And.intro ?_ ?_|(apply hKK;clear hKK KK)));all_goals first|refine Hold.mk ?_|omega|with_reducible assumption|(simp only [InR] at *;omega)|skip))
    refine awp_seq_k fun K1 hK1 => ?_
    (refine awp_sr fun KK hKK => ?_; simp [go_sem]; ((repeat' (first|(refine ag_x ?_;simp [go_sem])|intro _|refine And.intro ?_ ?_|(apply hKK;clear hKK KK)));all_goals first|refine Hold.mk ?_|omega|with_reducible assumption|(simp only [InR] at *;omega)|skip))
    refine awp_block ?_
    refine awp_loop (σ := Nat) (fun i => ⟨[(0, dIs l), (1, .v (.func (.func f) #[] #[])), (7, dI l.length), (8, dI i)], []⟩) (fun i => i ≤ l.length ∧ (l.take i).any p = false) (fun i => l.length - i) 0 (by (refine cov_of ?_ ?_ <;> simp [go_sem])) (by simp) ?_
    rintro i ⟨hi, hany⟩
    (refine awp_sr fun KK hKK => ?_; simp [go_sem]; ((repeat' (first|(refine ag_x ?_;simp [go_sem])|intro _|refine And.intro ?_ ?_|(apply hKK;clear hKK KK)));all_goals first|refine Hold.mk ?_|omega|with_reducible assumption|(simp only [InR] at *;omega)|skip))
    refine awp_seq_k fun K2 hK2 => ?_
    (refine awp_if fun T F hT hF => ?_; simp [go_sem]; refine BR.intro (fun h3 => hT ?_) (fun h3 => hF ?_); all_goals clear hT hF T F; try simp at h3) 
    · refine awp_skip ?_
      refine hK2 _ ?_; clear hK2
      obtain ⟨x, hx⟩ : ∃ x, l[i]? = some x := ⟨_, List.getElem?_eq_getElem h3⟩
      refine awp_seq_k fun K4 hK4 => ?_
      refine awp_block ?_
      (refine awp_sr fun KK hKK => ?_; simp [go_sem]; ((repeat' (first|(refine ag_x ?_;simp [go_sem])|intro _|refine And.intro ?_ ?_|(apply hKK;clear hKK KK)));all_goals first|refine Hold.mk ?_|omega|with_reducible assumption|(simp only [InR] at *;omega)|skip))
      (refine awp_sr fun KK hKK => ?_; simp [go_sem, hx]; ((repeat' (first|(refine ag_x ?_;simp [go_sem, hx])|intro _|refine And.intro ?_ ?_|(apply hKK;clear hKK KK)));all_goals first|refine Hold.mk ?_|omega|with_reducible assumption|(simp only [InR] at *;omega)|skip))
      ((try refine CallT.toA ?_); refine callT_m (by first | exact .inl ⟨rfl, rfl⟩ | exact .inr rfl) (by simp [go_sem]) ?_; intro args ha; simp [go_sem] at ha; subst ha; refine ⟨_, (hp x (List.mem_of_getElem? hx)), ?_⟩; rintro _ rfl; simp [go_sem]; ((repeat' (first|(refine ag_x ?_;simp [go_sem])|intro _|refine And.intro ?_ ?_|(apply hKK;clear hKK KK)));all_goals first|refine Hold.mk ?_|omega|with_reducible assumption|(simp only [InR] at *;omega)|skip))
      (refine awp_if fun T F hT hF => ?_; simp [go_sem]; refine BR.intro (fun h5 => hT ?_) (fun h5 => hF ?_); all_goals clear hT hF T F; try simp at h5) 
      · (refine awp_sr fun KK hKK => ?_; simp [go_sem]; ((repeat' (first|(refine ag_x ?_;simp [go_sem])|intro _|refine And.intro ?_ ?_|(apply hKK;clear hKK KK)));all_goals first|refine Hold.mk ?_|omega|with_reducible assumption|(simp only [InR] at *;omega)|skip))
        (refine awp_ret ?_; simp [go_sem])
        rw [fidx_at hany hx h5]
      · refine awp_skip ?_
        refine hK4 _ ?_; clear hK4
        (refine awp_r fun KK hKK => ?_; simp [go_sem]; ((repeat' (first|(refine ag_x ?_;simp [go_sem])|intro _|refine And.intro ?_ ?_|(apply hKK;clear hKK KK)));all_goals first|refine Hold.mk ?_|omega|with_reducible assumption|(simp only [InR] at *;omega)|skip))
        refine ⟨i + 1, ?_, ⟨h3, take_any hany hx h5⟩, by omega⟩
        (refine cov_of ?_ ?_ <;> simp [go_sem])
    · refine awp_exit ?_
      simp only [go_sem]
      refine hK1 _ ?_; clear hK1
      (refine awp_sr fun KK hKK => ?_; simp [go_sem]; ((repeat' (first|(refine ag_x ?_;simp [go_sem])|intro _|refine And.intro ?_ ?_|(apply hKK;clear hKK KK)));all_goals first|refine Hold.mk ?_|omega|with_reducible assumption|(simp only [InR] at *;omega)|skip))
      (refine awp_ret ?_; simp [go_sem])
      have : i = l.length := by omega
      subst this
      rw [List.take_length] at hany
      rw [fidx_none hany]
  · refine pcall_of Tryd.func50 rfl rfl Tryd.ntmps50 (rs := [.tmp 4]) (tys := [3]) rfl rfl (by simp) ?_
    (refine awp_sr fun KK hKK => ?_; simp [go_sem]; ((repeat' (first|(refine ag_x ?_;simp [go_sem])|intro _|refine And.intro ?_ ?_|(apply hKK;clear hKK KK)));all_goals first|refine Hold.mk ?_|omega|with_reducible assumption|(simp only [InR] at *;omega)|skip))
    refine awp_seq_k fun K1 hK1 => ?_
    (refine awp_sr fun KK hKK => ?_; simp [go_sem]; ((repeat' (first|(refine ag_x ?_;simp [go_sem])|intro _|refine And.intro ?_ ?_|(apply hKK;clear hKK KK)));all_goals first|refine Hold.mk ?_|omega|with_reducible assumption|(simp only [InR] at *;omega)|skip))
    refine awp_block ?_
    refine awp_loop (σ := Nat) (fun i => ⟨[(0, dIs l), (1, .fn f caps), (7, dI l.length), (8, dI i)], []⟩) (fun i => i ≤ l.length ∧ (l.take i).any p = false) (fun i => l.length - i) 0 (by (refine cov_of ?_ ?_ <;> simp [go_sem])) (by simp) ?_
    rintro i ⟨hi, hany⟩
    (refine awp_sr fun KK hKK => ?_; simp [go_sem]; ((repeat' (first|(refine ag_x ?_;simp [go_sem])|intro _|refine And.intro ?_ ?_|(apply hKK;clear hKK KK)));all_goals first|refine Hold.mk ?_|omega|with_reducible assumption|(simp only [InR] at *;omega)|skip))
    refine awp_seq_k fun K2 hK2 => ?_
    (refine awp_if fun T F hT hF => ?_; simp [go_sem]; refine BR.intro (fun h3 => hT ?_) (fun h3 => hF ?_); all_goals clear hT hF T F; try simp at h3) 
    · refine awp_skip ?_
      refine hK2 _ ?_; clear hK2
      obtain ⟨x, hx⟩ : ∃ x, l[i]? = some x := ⟨_, List.getElem?_eq_getElem h3⟩
      refine awp_seq_k fun K4 hK4 => ?_
      refine awp_block ?_
      (refine awp_sr fun KK hKK => ?_; simp [go_sem]; ((repeat' (first|(refine ag_x ?_;simp [go_sem])|intro _|refine And.intro ?_ ?_|(apply hKK;clear hKK KK)));all_goals first|refine Hold.mk ?_|omega|with_reducible assumption|(simp only [InR] at *;omega)|skip))
      (refine awp_sr fun KK hKK => ?_; simp [go_sem, hx]; ((repeat' (first|(refine ag_x ?_;simp [go_sem, hx])|intro _|refine And.intro ?_ ?_|(apply hKK;clear hKK KK)));all_goals first|refine Hold.mk ?_|omega|with_reducible assumption|(simp only [InR] at *;omega)|skip))
      ((try refine CallT.toA ?_); refine callT_m (by first | exact .inl ⟨rfl, rfl⟩ | exact .inr rfl) (by simp [go_sem]) ?_; intro args ha; simp [go_sem] at ha; subst ha; refine ⟨_, (hp x (List.mem_of_getElem? hx)), ?_⟩; rintro _ rfl; simp [go_sem]; ((repeat' (first|(refine ag_x ?_;simp [go_sem])|intro _|refine And.intro ?_ ?_|(apply hKK;clear hKK KK)));all_goals first|refine Hold.mk ?_|omega|with_reducible assumption|(simp only [InR] at *;omega)|skip))
      (refine awp_if fun T F hT hF => ?_; simp [go_sem]; refine BR.intro (fun h5 => hT ?_) (fun h5 => hF ?_); all_goals clear hT hF T F; try simp at h5) 
      · (refine awp_sr fun KK hKK => ?_; simp [go_sem]; ((repeat' (first|(refine ag_x ?_;simp [go_sem])|intro _|refine And.intro ?_ ?_|(apply hKK;clear hKK KK)));all_goals first|refine Hold.mk ?_|omega|with_reducible assumption|(simp only [InR] at *;omega)|skip))
        (refine awp_ret ?_; simp [go_sem])
        rw [fidx_at hany hx h5]
      · refine awp_skip ?_
        refine hK4 _ ?_; clear hK4
        (refine awp_r fun KK hKK => ?_; simp [go_sem]; ((repeat' (first|(refine ag_x ?_;simp [go_sem])|intro _|refine And.intro ?_ ?_|(apply hKK;clear hKK KK)));all_goals first|refine Hold.mk ?_|omega|with_reducible assumption|(simp only [InR] at *;omega)|skip))
        refine ⟨i + 1, ?_, ⟨h3, take_any hany hx h5⟩, by omega⟩
        (refine cov_of ?_ ?_ <;> simp [go_sem])
    · refine awp_exit ?_
      simp only [go_sem]
      refine hK1 _ ?_; clear hK1
      (refine awp_sr fun KK hKK => ?_; simp [go_sem]; ((repeat' (first|(refine ag_x ?_;simp [go_sem])|intro _|refine And.intro ?_ ?_|(apply hKK;clear hKK KK)));all_goals first|refine Hold.mk ?_|omega|with_reducible assumption|(simp only [InR] at *;omega)|skip))
      (refine awp_ret ?_; simp [go_sem])
      have : i = l.length := by omega
      subst this
      rw [List.take_length] at hany
      rw [fidx_none hany]
theorem containsF_spec (l : List Int) (df : D) (f : Nat) (caps : List D) (p : Int → Bool) (hf : FunD df f caps) (hp : ∀ x ∈ l, PCall Tryd.prog f (dI x :: caps) fun r => r = dB (p x)) (hl : l.length ≤ 2 ^ 40) : PCall Tryd.prog 32 [dIs l, df] fun r => r = dB (l.any p) := by
  have hf' := hf
  rcases hf with ⟨rfl, rfl⟩ | rfl
  all_goals
    refine pcall_of Tryd.func32 rfl rfl Tryd.ntmps32 (rs := [.tmp 4]) (tys := [4]) rfl rfl (by simp) ?_
    (refine awp_sr fun KK hKK => ?_; simp [go_sem]; ((repeat' (first|(refine ag_x ?_;simp [go_sem])|intro _|refine And.intro ?_ ?_|(apply hKK;clear hKK KK)));all_goals first|refine Hold.mk ?_|omega|with_reducible assumption|(simp only [InR] at *;omega)|skip))
    (refine awp_sr fun KK hKK => ?_; simp [go_sem]; ((repeat' (first|(refine ag_x ?_;simp [go_sem])|intro _|refine And.intro ?_ ?_|(apply hKK;clear hKK KK)));all_goals first|refine Hold.mk ?_|omega|with_reducible assumption|(simp only [InR] at *;omega)|skip))
    ((try refine CallT.toA ?_); refine callT_m (by first | exact .inl ⟨rfl, rfl⟩ | exact .inr rfl) (by simp [go_sem]) ?_; intro args ha; simp [go_sem] at ha; subst ha; refine ⟨_, (indexF_spec _ _ _ _ _ hf' hp hl), ?_⟩; rintro _ rfl; simp [go_sem]; ((repeat' (first|(refine ag_x ?_;simp [go_sem])|intro _|refine And.intro ?_ ?_|(apply hKK;clear hKK KK)));all_goals first|refine Hold.mk ?_|omega|with_reducible assumption|(simp only [InR] at *;omega)|skip))
    (refine awp_ret ?_; simp [go_sem, fidx_any])
theorem run1_spec (n : Int) : PCall Tryd.prog 33 [dI n] fun r => r = dB (!isW n) := by
  refine pcall_of Tryd.func33 rfl rfl Tryd.ntmps33 (rs := [.tmp 2]) (tys := [4]) rfl rfl (by simp) ?_
  (repeat' (first | ((first|refine awp_sr fun KK hKK => ?_|refine awp_r fun KK hKK => ?_|((try refine CallT.toA ?_); refine callT_m (by first | exact .inl ⟨rfl, rfl⟩ | exact .inr rfl) (by simp [go_sem]) ?_; intro args ha; simp [go_sem] at ha; subst ha; refine ⟨_, (word_spec _), ?_⟩; rintro _ rfl)|((try refine CallT.toA ?_); refine callT_f (by first | exact .inl ⟨rfl, rfl⟩ | exact .inr rfl) ?_; intro args ha; simp [go_sem] at ha; subst ha; refine ⟨_, (word_spec _), ?_⟩; rintro _ rfl; refine ⟨rfl, ?_⟩));simp [go_sem];((repeat' (first|(refine ag_x ?_;simp [go_sem])|intro _|refine And.intro ?_ ?_|(apply hKK;clear hKK KK)));all_goals first|refine Hold.mk ?_|omega|with_reducible assumption|(simp only [InR] at *;omega)|skip)) | refine awp_block ?_ | ((refine awp_if fun T F hT hF => ?_); simp [go_sem, *]; (first | refine BR.intro (fun hb => hT ?_) (fun hb => hF ?_) | refine hT ?_ | refine hF ?_); all_goals ((try clear hT); (try clear hF); (try clear T F); (try simp at hb); (try (exfalso; omega)))) | refine awp_skip ?_ | (refine awp_exit ?_; simp only [go_sem]) | refine awp_seq ?_ | (refine awp_ret ?_; simp [go_sem])))
theorem check1_spec (r : Int) (regs : Int) (x y : D) : PCall Tryd.prog 39 [dI r, .rd [dI regs, x, y]] fun d => d = dB (decide (r < 0) || decide (regs ≤ r)) := by
  refine pcall_of Tryd.func39 rfl rfl Tryd.ntmps39 (rs := [.tmp 3]) (tys := [4]) rfl rfl (by simp) ?_
  (repeat' (first | ((first|refine awp_sr fun KK hKK => ?_|refine awp_r fun KK hKK => ?_);simp [go_sem];((repeat' (first|(refine ag_x ?_;simp [go_sem])|intro _|refine And.intro ?_ ?_|(apply hKK;clear hKK KK)));all_goals first|refine Hold.mk ?_|omega|with_reducible assumption|(simp only [InR] at *;omega)|skip)) | refine awp_block ?_ | ((refine awp_if fun T F hT hF => ?_); simp [go_sem, *]; (first | refine BR.intro (fun hb => hT ?_) (fun hb => hF ?_) | refine hT ?_ | refine hF ?_); all_goals ((try clear hT); (try clear hF); (try clear T F); (try simp at hb); (try (exfalso; omega)))) | refine awp_skip ?_ | (refine awp_exit ?_; simp only [go_sem]) | refine awp_seq ?_ | (refine awp_ret ?_; simp [go_sem])))
def slotBad (regs r : Int) : Bool := decide (r < 0) || decide (regs ≤ r)
def exOk (regs : Int) (x : Exi) : Bool := decide (x.slots.length ≤ 20) && !x.slots.any (slotBad regs)
def trOk (t : Tr) : Bool := decide (1 ≤ t.regs) && decide (t.regs ≤ 20) && decide (t.code.length ≤ 60) && decide (t.exits.length ≤ 10) && t.code.all (insOk t.regs t.exits.length) && t.exits.all (exOk t.regs)
end Go.Proofs.YtmgbaegdkjcagaaDoor

namespace Go.Proofs.YtmgbaegdkjcagaaDoor
open Go.Eng
set_option maxRecDepth 20000
attribute [local irreducible] AG CallA CallT AWp PCall ACall AgC

theorem check_spec (t : Tr) : PCall Tryd.prog 16 [dTr t] fun r => r = dI (if trOk t then 0 else 1) := by 
  refine pcall_of Tryd.func16 rfl rfl Tryd.ntmps16 (rs := [.tmp 2]) (tys := [28]) rfl rfl (by simp) ?_
  (refine awp_sr fun KK hKK => ?_; simp [go_sem]; ((repeat' (first|(refine ag_x ?_;simp [go_sem])|intro _|refine And.intro ?_ ?_|(apply hKK;clear hKK KK)));all_goals first|refine Hold.mk ?_|omega|with_reducible assumption|(simp only [InR] at *;omega)|skip))
  refine awp_frzbox 1 rfl rfl ?_
  simp only [go_sem]
  refine awp_seq_k fun K1 hK1 => ?_
  (refine awp_sr fun KK hKK => ?_; simp [go_sem]; ((repeat' (first|(refine ag_x ?_;simp [go_sem])|intro _|refine And.intro ?_ ?_|(apply hKK;clear hKK KK)));all_goals first|refine Hold.mk ?_|omega|with_reducible assumption|(simp only [InR] at *;omega)|skip))
  (refine awp_if fun T F hT hF => ?_; simp [go_sem]; refine BR.intro (fun h2 => hT ?_) (fun h2 => hF ?_); all_goals clear hT hF T F; try simp at h2) 
  · (refine awp_sr fun KK hKK => ?_; simp [go_sem]; ((repeat' (first|(refine ag_x ?_;simp [go_sem])|intro _|refine And.intro ?_ ?_|(apply hKK;clear hKK KK)));all_goals first|refine Hold.mk ?_|omega|with_reducible assumption|(simp only [InR] at *;omega)|skip))
    (refine awp_ret ?_; simp [go_sem])
    simp [trOk]
    omega
  · refine awp_skip ?_
    refine hK1 _ ?_; clear hK1
    have hregs : 1 ≤ t.regs ∧ t.regs ≤ 20 ∧ t.code.length ≤ 60 ∧ t.exits.length ≤ 10 := by omega
    refine awp_seq_k fun K3 hK3 => ?_
    (refine awp_sr fun KK hKK => ?_; simp [go_sem]; ((repeat' (first|(refine ag_x ?_;simp [go_sem])|intro _|refine And.intro ?_ ?_|(apply hKK;clear hKK KK)));all_goals first|refine Hold.mk ?_|omega|with_reducible assumption|(simp only [InR] at *;omega)|skip))
    refine awp_block ?_
    refine awp_loop (σ := Nat) (fun k => ⟨[(1, .rd [dI t.regs, .sl 6 (t.code.map cIns), .sl 2 (t.exits.map cExi)]), (28, .sl 6 (t.code.map cIns)), (29, dI t.code.length), (30, dI k)], []⟩) (fun k => k ≤ t.code.length ∧ (t.code.take k).all (insOk t.regs t.exits.length) = true) (fun k => t.code.length - k) 0 ?_ ?_ ?_
    · (refine cov_of ?_ ?_ <;> simp [go_sem])
    · simp
    rintro k ⟨hk, hall⟩
    (refine awp_sr fun KK hKK => ?_; simp [go_sem]; ((repeat' (first|(refine ag_x ?_;simp [go_sem])|intro _|refine And.intro ?_ ?_|(apply hKK;clear hKK KK)));all_goals first|refine Hold.mk ?_|omega|with_reducible assumption|(simp only [InR] at *;omega)|skip))
    refine awp_seq_k fun K4 hK4 => ?_
    (refine awp_if fun T F hT hF => ?_; simp [go_sem]; refine BR.intro (fun h5 => hT ?_) (fun h5 => hF ?_); all_goals clear hT hF T F; try simp at h5) 
    · refine awp_skip ?_
      refine hK4 _ ?_; clear hK4
      obtain ⟨x, hx⟩ : ∃ x, t.code[k]? = some x := ⟨_, List.getElem?_eq_getElem h5⟩
      refine awp_seq_k fun K6 hK6 => ?_
      refine awp_block ?_
      (refine awp_sr fun KK hKK => ?_; simp [go_sem, hx]; ((repeat' (first|(refine ag_x ?_;simp [go_sem, hx])|intro _|refine And.intro ?_ ?_|(apply hKK;clear hKK KK)));all_goals first|refine Hold.mk ?_|omega|with_reducible assumption|(simp only [InR] at *;omega)|skip))
      (refine awp_sr fun KK hKK => ?_; simp [go_sem]; ((repeat' (first|(refine ag_x ?_;simp [go_sem])|intro _|refine And.intro ?_ ?_|(apply hKK;clear hKK KK)));all_goals first|refine Hold.mk ?_|omega|with_reducible assumption|(simp only [InR] at *;omega)|skip))
      ((try refine CallT.toA ?_); refine callT_m (by first | exact .inl ⟨rfl, rfl⟩ | exact .inr rfl) (by simp [go_sem]) ?_; intro args ha; simp [go_sem] at ha; subst ha; refine ⟨_, (valid_spec _ _), ?_⟩; rintro _ rfl; simp [go_sem]; ((repeat' (first|(refine ag_x ?_;simp [go_sem])|intro _|refine And.intro ?_ ?_|(apply hKK;clear hKK KK)));all_goals first|refine Hold.mk ?_|omega|with_reducible assumption|(simp only [InR] at *;omega)|skip))
      (refine awp_if fun T F hT hF => ?_; simp [go_sem]; refine BR.intro (fun h7 => hT ?_) (fun h7 => hF ?_); all_goals clear hT hF T F; try simp at h7) 
      · (refine awp_sr fun KK hKK => ?_; simp [go_sem]; ((repeat' (first|(refine ag_x ?_;simp [go_sem])|intro _|refine And.intro ?_ ?_|(apply hKK;clear hKK KK)));all_goals first|refine Hold.mk ?_|omega|with_reducible assumption|(simp only [InR] at *;omega)|skip))
        (refine awp_ret ?_; simp [go_sem])
        have := all_at hx h7
        simp [trOk, this]
      · refine awp_skip ?_
        refine hK6 _ ?_; clear hK6
        (refine awp_r fun KK hKK => ?_; simp [go_sem]; ((repeat' (first|(refine ag_x ?_;simp [go_sem])|intro _|refine And.intro ?_ ?_|(apply hKK;clear hKK KK)));all_goals first|refine Hold.mk ?_|omega|with_reducible assumption|(simp only [InR] at *;omega)|skip))
        refine ⟨k + 1, ?_, ⟨h5, take_all hall hx h7⟩, by omega⟩
        (refine cov_of ?_ ?_ <;> simp [go_sem])
    · refine awp_exit ?_
      simp only [go_sem]
      refine hK3 _ ?_; clear hK3
      have : k = t.code.length := by omega
      subst this
      rw [List.take_length] at hall
      refine awp_seq_k fun K8 hK8 => ?_
      (refine awp_sr fun KK hKK => ?_; simp [go_sem]; ((repeat' (first|(refine ag_x ?_;simp [go_sem])|intro _|refine And.intro ?_ ?_|(apply hKK;clear hKK KK)));all_goals first|refine Hold.mk ?_|omega|with_reducible assumption|(simp only [InR] at *;omega)|skip))
      refine awp_block ?_
      refine awp_loop (σ := Nat) (fun k => ⟨[(1, .rd [dI t.regs, .sl 6 (t.code.map cIns), .sl 2 (t.exits.map cExi)]), (40, .sl 2 (t.exits.map cExi)), (41, dI t.exits.length), (42, dI k)], []⟩) (fun k => k ≤ t.exits.length ∧ (t.exits.take k).all (exOk t.regs) = true) (fun k => t.exits.length - k) 0 ?_ ?_ ?_
      · (refine cov_of ?_ ?_ <;> simp [go_sem])
      · simp
      rintro k ⟨hk', hall'⟩
      (refine awp_sr fun KK hKK => ?_; simp [go_sem]; ((repeat' (first|(refine ag_x ?_;simp [go_sem])|intro _|refine And.intro ?_ ?_|(apply hKK;clear hKK KK)));all_goals first|refine Hold.mk ?_|omega|with_reducible assumption|(simp only [InR] at *;omega)|skip))
      refine awp_seq_k fun K9 hK9 => ?_
      (refine awp_if fun T F hT hF => ?_; simp [go_sem]; refine BR.intro (fun h10 => hT ?_) (fun h10 => hF ?_); all_goals clear hT hF T F; try simp at h10) 
      · refine awp_skip ?_
        refine hK9 _ ?_; clear hK9
        obtain ⟨x, hx⟩ : ∃ x, t.exits[k]? = some x := ⟨_, List.getElem?_eq_getElem h10⟩
        refine awp_seq_k fun K11 hK11 => ?_
        refine awp_block ?_
        (refine awp_sr fun KK hKK => ?_; simp [go_sem, hx]; ((repeat' (first|(refine ag_x ?_;simp [go_sem, hx])|intro _|refine And.intro ?_ ?_|(apply hKK;clear hKK KK)));all_goals first|refine Hold.mk ?_|omega|with_reducible assumption|(simp only [InR] at *;omega)|skip))
        (refine awp_sr fun KK hKK => ?_; simp [go_sem]; ((repeat' (first|(refine ag_x ?_;simp [go_sem])|intro _|refine And.intro ?_ ?_|(apply hKK;clear hKK KK)));all_goals first|refine Hold.mk ?_|omega|with_reducible assumption|(simp only [InR] at *;omega)|skip))
        (refine agc_f (dB (x.slots.any (slotBad t.regs))) (by first | exact .inl ⟨rfl, rfl⟩ | exact .inr rfl) ?_ rfl ?_; (intro hc args ha; simp [go_sem] at ha; subst ha; exact (containsF_spec _ _ 39 _ (slotBad t.regs) (.inr rfl) (fun r _ => check1_spec r _ _ _) (by simp at hc; omega))); simp [go_sem]; ((repeat' (first|(refine ag_x ?_;simp [go_sem])|intro _|refine And.intro ?_ ?_|(apply hKK;clear hKK KK)));all_goals first|refine Hold.mk ?_|omega|with_reducible assumption|(simp only [InR] at *;omega)|skip))
        (refine awp_if fun T F hT hF => ?_; simp [go_sem]; refine BR.intro (fun h12 => hT ?_) (fun h12 => hF ?_); all_goals clear hT hF T F; try simp at h12) 
        · (refine awp_sr fun KK hKK => ?_; simp [go_sem]; ((repeat' (first|(refine ag_x ?_;simp [go_sem])|intro _|refine And.intro ?_ ?_|(apply hKK;clear hKK KK)));all_goals first|refine Hold.mk ?_|omega|with_reducible assumption|(simp only [InR] at *;omega)|skip))
          (refine awp_ret ?_; simp [go_sem])
          have := all_at hx (p := exOk t.regs) (by simp [exOk]; intro hle; rcases h12 with h | h; exact absurd h (by omega); simpa using h)
          simp [trOk, this]
        · refine awp_skip ?_
          refine hK11 _ ?_; clear hK11
          (refine awp_r fun KK hKK => ?_; simp [go_sem]; ((repeat' (first|(refine ag_x ?_;simp [go_sem])|intro _|refine And.intro ?_ ?_|(apply hKK;clear hKK KK)));all_goals first|refine Hold.mk ?_|omega|with_reducible assumption|(simp only [InR] at *;omega)|skip))
          refine ⟨k + 1, ?_, ⟨h10, take_all hall' hx (by simp [exOk]; exact ⟨by omega, by simpa using h12.2⟩)⟩, by omega⟩
          (refine cov_of ?_ ?_ <;> simp [go_sem])
      · refine awp_exit ?_
        simp only [go_sem]
        refine hK8 _ ?_; clear hK8
        have : k = t.exits.length := by omega
        subst this
        rw [List.take_length] at hall'
        (refine awp_sr fun KK hKK => ?_; simp [go_sem]; ((repeat' (first|(refine ag_x ?_;simp [go_sem])|intro _|refine And.intro ?_ ?_|(apply hKK;clear hKK KK)));all_goals first|refine Hold.mk ?_|omega|with_reducible assumption|(simp only [InR] at *;omega)|skip))
        (refine awp_ret ?_; simp [go_sem])
        have : trOk t = true := by simp only [trOk, hall, hall', Bool.and_true, Bool.and_eq_true, decide_eq_true_eq]; omega
        simp [this]
end Go.Proofs.YtmgbaegdkjcagaaDoor

namespace Go.Proofs.YtmgbaegdkjcagaaDoor
open Go.Eng
set_option maxRecDepth 20000
attribute [local irreducible] AG CallA CallT AWp PCall ACall AgC

theorem clone_spec (l : List Int) (hl : l.length ≤ 2 ^ 40) (h0 : l ≠ []) : ACall Tryd.prog 35 [dIs l] [] [800000] fun ps r => ∃ g, ps = [(g, .row 3 1 (l.map cI))] ∧ r = .own 800000 g := by
  refine acall_of Tryd.func35 rfl rfl Tryd.ntmps35 (rs := [.tmp 2]) (tys := [43]) rfl rfl (by simp) (by simp) ?_
  (refine awp_sr fun KK hKK => ?_; simp [go_sem]; ((repeat' (first|(refine ag_x ?_;simp [go_sem])|intro _|refine And.intro ?_ ?_|(apply hKK;clear hKK KK)));all_goals first|refine Hold.mk ?_|omega|with_reducible assumption|(simp only [InR] at *;omega)|skip))
  refine awp_seq_k fun K1 hK1 => ?_
  (refine awp_sr fun KK hKK => ?_; simp [go_sem]; ((repeat' (first|(refine ag_x ?_;simp [go_sem])|intro _|refine And.intro ?_ ?_|(apply hKK;clear hKK KK)));all_goals first|refine Hold.mk ?_|omega|with_reducible assumption|(simp only [InR] at *;omega)|skip))
  case refine_2 => rename_i hn; exact absurd hn h0
  refine awp_if fun T F hT hF => ?_
  simp [go_sem]
  refine hF ?_
  refine awp_skip ?_
  refine hK1 _ ?_; clear hK1
  (refine awp_sr fun KK hKK => ?_; simp [go_sem]; ((repeat' (first|(refine ag_x ?_;simp [go_sem])|intro _|refine And.intro ?_ ?_|(apply hKK;clear hKK KK)));all_goals first|refine Hold.mk ?_|omega|with_reducible assumption|(simp only [InR] at *;omega)|skip))
  refine awp_renrow 2 800000 rfl rfl (by decide) fun g => ?_
  simp only [go_sem]
  refine awp_ret ?_
  simp [go_sem]

structure Res where (exit back rounds : Int) (slots told : List Int) deriving DecidableEq
@[go_sem] abbrev dRes (r : Res) : D := .agg [dI r.exit, dI r.back, dI r.rounds, dIs r.slots, dIs r.told]
/-- the words that an exit's slots name -/
def pickW (ws : List Int) (l : List Int) : List Int := l.map fun s => ws.getD s.toNat 0

theorem out_spec (t : Tr) (rounds : Int) (told : List Int) (x : Nat) (ws : List Int) (e : Exi) (hx : t.exits[x]? = some e) (hs : ∀ s ∈ e.slots, 0 ≤ s ∧ s < ws.length) (hl : e.slots.length ≤ 20) :
    PCall Tryd.prog 36 [dTr t, .agg [dI 0, dI 0, dI rounds, .v (.slice none 0 0), dIs told], dI x, dIs ws] fun r => r = dRes ⟨x, e.back, rounds, pickW ws e.slots, told⟩ := by
  refine pcall_of Tryd.func36 rfl rfl Tryd.ntmps36 (rs := [.cell 8 47]) (tys := [47]) rfl rfl (by simp) ?_
  (refine awp_sr fun KK hKK => ?_; simp [go_sem]; ((repeat' (first|(refine ag_x ?_;simp [go_sem])|intro _|refine And.intro ?_ ?_|(apply hKK;clear hKK KK)));all_goals first|refine Hold.mk ?_|omega|with_reducible assumption|(simp only [InR] at *;omega)|skip))
  rename_i g1 g2 g3
  refine awp_frzbox 4 rfl rfl ?_
  refine awp_nilbox 38 3 1 3 (sb := 5) rfl rfl (by decide) fun g4 => ?_
  simp only [go_sem, List.set]
  refine awp_join ⟨[(4, .rd [dI t.regs, .sl 6 (t.code.map cIns), .sl 2 (t.exits.map cExi)]), (5, .ptr 5 g2 0), (8, .ptr 8 g3 0), (2, dI x), (3, dIs ws)],
    [(5, g2, .box [dI x, dI e.back, dI rounds, .own 38 g4, dIs told]), (38, g4, .row 3 1 []), (8, g3, .box [dI 0, dI 0, dI 0, .v (.slice none 0 0), .v (.slice none 0 0)])]⟩ ?_ ?_
  · ((refine awp_d (.qs [0, 1, 3, 7] (.two 2 (.qs [4, 5] (.two 6 (.one 8 (.qs [9] (.one 10 (.nil)))) 8 (.qs [6, 9] (.one 10 (.nil))))) 8 (.qs [2, 4, 5, 6, 9] (.one 10 (.nil))))) (by kernel_rfl) ?_ ?_ ?_ ?_); (kernel_rfl); (exact (by decide +kernel)); (kernel_rfl); intro KK hKK; ((repeat' (first|(refine ag_x ?_;simp [go_sem, hx])|refine adr_nil ?_|refine adr_two ?_ ?_|refine adr_kp2 ?_ ?_|((first|refine adr_qs fun KK hKK=>?_|refine adr_y fun KK hKK=>?_);simp [go_sem, hx])|intro _|refine And.intro ?_ ?_|(apply hKK;clear hKK KK)));all_goals first|refine Hold.mk ?_|omega|with_reducible assumption|(simp only [InR] at *;omega)|skip))
    all_goals (refine cov_of ?_ ?_ <;> simp [go_sem])
  refine awp_seq_k fun K1 hK1 => ?_
  (refine awp_sr fun KK hKK => ?_; simp [go_sem, hx]; ((repeat' (first|(refine ag_x ?_;simp [go_sem, hx])|intro _|refine And.intro ?_ ?_|(apply hKK;clear hKK KK)));all_goals first|refine Hold.mk ?_|omega|with_reducible assumption|(simp only [InR] at *;omega)|skip))
  refine awp_block ?_
  refine awp_loop (σ := Nat × Nat) (fun k => ⟨[(5, .ptr 5 g2 0), (8, .ptr 8 g3 0), (3, dIs ws), (25, dIs e.slots), (26, dI e.slots.length), (27, dI k.1)],
    [(5, g2, .box [dI x, dI e.back, dI rounds, .own 38 k.2, dIs told]), (38, k.2, .row 3 1 ((pickW ws (e.slots.take k.1)).map cI)), (8, g3, .box [dI 0, dI 0, dI 0, .v (.slice none 0 0), .v (.slice none 0 0)])]⟩)
    (fun k => k.1 ≤ e.slots.length) (fun k => e.slots.length - k.1) (0, g4) ?_ ?_ ?_
  · (refine cov_of ?_ ?_ <;> simp [go_sem, pickW])
  · simp
  rintro ⟨k, g⟩ hk
  simp only at hk
  (refine awp_sr fun KK hKK => ?_; simp [go_sem]; ((repeat' (first|(refine ag_x ?_;simp [go_sem])|intro _|refine And.intro ?_ ?_|(apply hKK;clear hKK KK)));all_goals first|refine Hold.mk ?_|omega|with_reducible assumption|(simp only [InR] at *;omega)|skip))
  refine awp_seq_k fun K2 hK2 => ?_
  (refine awp_if fun T F hT hF => ?_; simp [go_sem]; refine BR.intro (fun h3 => hT ?_) (fun h3 => hF ?_); all_goals clear hT hF T F; try simp at h3)
  · refine awp_skip ?_
    refine hK2 _ ?_; clear hK2
    obtain ⟨s, hsx⟩ : ∃ s, e.slots[k]? = some s := ⟨_, List.getElem?_eq_getElem h3⟩
    have hs2 := hs s (List.mem_of_getElem? hsx)
    obtain ⟨v, hv⟩ : ∃ v, ws[s.toNat]? = some v := ⟨_, List.getElem?_eq_getElem (by omega)⟩
    have hpl : (pickW ws (e.slots.take k)).length ≤ 20 := by simp [pickW]; omega
    refine awp_seq_k fun K4 hK4 => ?_
    refine awp_block ?_
    (refine awp_sr fun KK hKK => ?_; simp [go_sem, hsx]; ((repeat' (first|(refine ag_x ?_;simp [go_sem, hsx])|intro _|refine And.intro ?_ ?_|(apply hKK;clear hKK KK)));all_goals first|refine Hold.mk ?_|omega|with_reducible assumption|(simp only [InR] at *;omega)|skip))
    ((refine awp_d (.qs [0, 1, 2, 3, 4, 5] (.kp 6 (.one 7 (.qs [8] (.one 9 .nil))))) (by kernel_rfl) ?_ ?_ ?_ ?_); (kernel_rfl); (exact (by decide +kernel)); (kernel_rfl); intro KK hKK; ((repeat' (first|(refine ag_x ?_;simp [go_sem, hv])|refine adr_nil ?_|refine adr_two ?_ ?_|refine adr_kp2 ?_ ?_|((first|refine adr_qs fun KK hKK=>?_|refine adr_y fun KK hKK=>?_);simp [go_sem, hv])|intro _|refine And.intro ?_ ?_|(apply hKK;clear hKK KK)));all_goals first|refine Hold.mk ?_|omega|with_reducible assumption|(simp only [InR] at *;omega)|skip))
    rename_i g5 g6
    refine hK4 _ ?_; clear hK4
    (refine awp_r fun KK hKK => ?_; simp [go_sem]; ((repeat' (first|(refine ag_x ?_;simp [go_sem])|intro _|refine And.intro ?_ ?_|(apply hKK;clear hKK KK)));all_goals first|refine Hold.mk ?_|omega|with_reducible assumption|(simp only [InR] at *;omega)|skip))
    have ht : pickW ws (e.slots.take (k + 1)) = pickW ws (e.slots.take k) ++ [v] := by
      rw [List.take_add_one, hsx]
      simp [pickW, List.getD, hv]
    refine ⟨(k + 1, g6), ?_, h3, by simp; omega⟩
    (refine cov_of ?_ ?_ <;> simp [go_sem, ht])
  · refine awp_exit ?_
    simp only [go_sem]
    refine hK1 _ ?_; clear hK1
    have : k = e.slots.length := by omega
    subst this
    simp only [List.take_length]
    (refine awp_sr fun KK hKK => ?_; simp [go_sem]; ((repeat' (first|(refine ag_x ?_;simp [go_sem])|intro _|refine And.intro ?_ ?_|(apply hKK;clear hKK KK)));all_goals first|refine Hold.mk ?_|omega|with_reducible assumption|(simp only [InR] at *;omega)|skip))
    (refine awp_ret ?_; simp [go_sem])
end Go.Proofs.YtmgbaegdkjcagaaDoor
