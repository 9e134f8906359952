/- Part of a proof: see the last text. -/
import Derived.Test.YtmgbaegdkjcagaaWI
set_option linter.unusedVariables false
set_option linter.unusedSimpArgs false
namespace Go.Proofs.Ytmgbaegdkjcagaa
open Go.Eng
set_option maxRecDepth 20000
set_option linter.unusedSimpArgs false
set_option linter.unusedVariables false
attribute [local irreducible] AG CallA CallT AWp PCall ACall AgC

@[go_sem] abbrev dBl (l : List Bool) : D := .sl 1 (l.map cBo)
def exitsV (op : Int) : Bool := decide (2 ≤ op ∧ op ≤ 6 ∨ op = 9)
theorem exits_spec (op : Int) : PCall Try.prog 76 [dI op] fun r => r = dB (exitsV op) := by 
  refine pcall_of Try.func76 rfl rfl Try.ntmps76 (rs := [.tmp 2]) (tys := [4]) rfl rfl (by simp) ?_
  (repeat' (first | ((first|refine awp_sr fun KK hKK => ?_|refine awp_r fun KK hKK => ?_);simp [go_sem, exitsV];((repeat' (first|(refine ag_x ?_;simp [go_sem, exitsV])|intro _|refine And.intro ?_ ?_|(apply hKK;clear hKK KK)));all_goals first|refine Hold.mk ?_|omega|with_reducible assumption|(simp only [InR] at *;omega)|skip)) | refine awp_block ?_ | ((refine awp_if fun T F hT hF => ?_); simp [go_sem, exitsV, *]; (first | refine BR.intro (fun hb => hT ?_) (fun hb => hF ?_) | refine hT ?_ | refine hF ?_); all_goals ((try clear hT); (try clear hF); (try clear T F); (try simp at hb); (try (exfalso; omega)))) | refine awp_skip ?_ | (refine awp_exit ?_; simp only [go_sem]) | refine awp_seq ?_ | (refine awp_ret ?_; simp [go_sem, exitsV])))
theorem flds_ex {op : Int} (h : 0 ≤ op) (h' : op ≤ 10) : (flds op).contains 88 = exitsV op := by
  have hk : op = 0 ∨ op = 1 ∨ op = 2 ∨ op = 3 ∨ op = 4 ∨ op = 5 ∨ op = 6 ∨ op = 7 ∨ op = 8 ∨ op = 9 ∨ op = 10 := by omega
  rcases hk with h | h | h | h | h | h | h | h | h | h | h <;> subst h <;> decide
theorem rexits_spec (op : Int) (h : 0 ≤ op) (h' : op ≤ 10) : PCall Try.prog 80 [dI op] fun r => r = dB (exitsV op) := by 
  rw [← flds_ex h h']
  refine pcall_of Try.func80 rfl rfl Try.ntmps80 (rs := [.tmp 2]) (tys := [4]) rfl rfl (by simp) ?_
  (refine awp_sr fun KK hKK => ?_; simp [go_sem]; ((repeat' (first|(refine ag_x ?_;simp [go_sem])|intro _|refine And.intro ?_ ?_|(apply hKK;clear hKK KK)));all_goals first|refine Hold.mk ?_|omega|with_reducible assumption|(simp only [InR] at *;omega)|skip))
  (refine awp_sr fun KK hKK => ?_; simp [go_sem]; ((repeat' (first|(refine ag_x ?_;simp [go_sem])|intro _|refine And.intro ?_ ?_|(apply hKK;clear hKK KK)));all_goals first|refine Hold.mk ?_|omega|with_reducible assumption|(simp only [InR] at *;omega)|skip))
  ((try refine CallT.toA ?_); refine callT_m (by first | exact .inl ⟨rfl, rfl⟩ | exact .inr rfl) (by simp [go_sem]) ?_; intro args ha; simp [go_sem] at ha; subst ha; refine ⟨_, (has_spec op 88 h h'), ?_⟩; rintro _ rfl; simp [go_sem]; ((repeat' (first|(refine ag_x ?_;simp [go_sem])|intro _|refine And.intro ?_ ?_|(apply hKK;clear hKK KK)));all_goals first|refine Hold.mk ?_|omega|with_reducible assumption|(simp only [InR] at *;omega)|skip))
  (refine awp_ret ?_; simp [go_sem])

/-- where a row of truths says yes -/
def markFrom : List Bool → Nat → List Int
  | [], _ => []
  | b :: l, k => (if b then [(k : Int)] else []) ++ markFrom l (k + 1)
def markV (l : List Bool) : List Int := markFrom l 0
theorem markFrom_app : ∀ (l m : List Bool) (k : Nat), markFrom (l ++ m) k = markFrom l k ++ markFrom m (k + l.length)
  | [], m, k => by simp [markFrom]
  | b :: l, m, k => by
    simp only [List.cons_append, markFrom, markFrom_app l m (k + 1), List.length_cons, List.append_assoc, show k + 1 + l.length = k + (l.length + 1) by omega]
theorem markV_step {l : List Bool} {i : Nat} {b : Bool} (h : l[i]? = some b) : markV (l.take (i + 1)) = markV (l.take i) ++ (if b then [(i : Int)] else []) := by
  have hk := (List.getElem?_eq_some_iff.1 h).1
  unfold markV
  rw [List.take_add_one, h, markFrom_app]
  simp only [Option.toList, markFrom, List.append_nil, List.length_take, Nat.zero_add]
  rw [Nat.min_eq_left (by omega)]
theorem markFrom_len : ∀ (l : List Bool) (k : Nat), (markFrom l k).length ≤ l.length
  | [], k => by simp [markFrom]
  | b :: l, k => by
    have := markFrom_len l (k + 1)
    simp only [markFrom, List.length_append, List.length_cons]
    split <;> simp <;> omega

set_option maxHeartbeats 4000000 in
theorem marked_spec (l : List Bool) (hl : l.length ≤ 1000) : PCall Try.prog 59 [dBl l] fun r => r = dIs (markV l) := by 
  refine pcall_of Try.func59 rfl rfl Try.ntmps59 (rs := [.tmp 2]) (tys := [26]) rfl rfl (by simp) ?_
  (refine awp_sr fun KK hKK => ?_; simp [go_sem]; ((repeat' (first|(refine ag_x ?_;simp [go_sem])|intro _|refine And.intro ?_ ?_|(apply hKK;clear hKK KK)));all_goals first|refine Hold.mk ?_|omega|with_reducible assumption|(simp only [InR] at *;omega)|skip))
  (refine awp_sr fun KK hKK => ?_; simp [go_sem]; ((repeat' (first|(refine ag_x ?_;simp [go_sem])|intro _|refine And.intro ?_ ?_|(apply hKK;clear hKK KK)));all_goals first|refine Hold.mk ?_|omega|with_reducible assumption|(simp only [InR] at *;omega)|skip))
  refine awp_nilslot 3 17 3 1 rfl fun gb => ?_
  simp only [go_sem]
  refine awp_seq_k fun K1 hK1 => ?_
  (refine awp_sr fun KK hKK => ?_; simp [go_sem]; ((repeat' (first|(refine ag_x ?_;simp [go_sem])|intro _|refine And.intro ?_ ?_|(apply hKK;clear hKK KK)));all_goals first|refine Hold.mk ?_|omega|with_reducible assumption|(simp only [InR] at *;omega)|skip))
  refine awp_block ?_
  refine awp_loop (σ := Nat × Nat) (fun x => ⟨[(3, .own 17 x.2), (6, dBl l), (7, dI l.length), (8, dI x.1)], [(17, x.2, .row 3 1 ((markV (l.take x.1)).map cI))]⟩) (fun x => x.1 ≤ l.length) (fun x => l.length - x.1) (0, gb) ?_ ?_ ?_
  · (refine cov_of ?_ ?_ <;> simp [go_sem, markV, markFrom])
  · simp
  rintro ⟨i, gg⟩ hx'
  simp only at hx'
  have hml : (markV (l.take i)).length ≤ 1000 := by have := markFrom_len (l.take i) 0; simp at this; unfold markV; omega
  (refine awp_sr fun KK hKK => ?_; simp [go_sem]; ((repeat' (first|(refine ag_x ?_;simp [go_sem])|intro _|refine And.intro ?_ ?_|(apply hKK;clear hKK KK)));all_goals first|refine Hold.mk ?_|omega|with_reducible assumption|(simp only [InR] at *;omega)|skip))
  refine awp_seq_k fun K2 hK2 => ?_
  (refine awp_if fun T F hT hF => ?_; simp [go_sem]; refine BR.intro (fun h3 => hT ?_) (fun h3 => hF ?_); all_goals clear hT hF T F; try simp at h3) 
  · refine awp_skip ?_
    refine hK2 _ ?_; clear hK2
    obtain ⟨x, hx⟩ : ∃ x, l[i]? = some x := ⟨_, List.getElem?_eq_getElem (by omega)⟩
    have hst := markV_step hx
    generalize hacc : markV (l.take i) = acc at hml hst ⊢
    refine awp_seq_k fun K4 hK4 => ?_
    have tl4 : ∀ S' gb', Cov S' ⟨[(3, .own 17 gb'), (6, dBl l), (7, dI l.length), (8, dI i)], [(17, gb', .row 3 1 ((acc ++ (if x then [(i : Int)] else [])).map cI))]⟩ → K4 S' := fun S' gb' hS => by
      refine hK4 _ ?_; clear hK4
      refine awp_cov hS ?_; clear hS
      (refine awp_r fun KK hKK => ?_; simp [go_sem]; ((repeat' (first|(refine ag_x ?_;simp [go_sem])|intro _|refine And.intro ?_ ?_|(apply hKK;clear hKK KK)));all_goals first|refine Hold.mk ?_|omega|with_reducible assumption|(simp only [InR] at *;omega)|skip))
      refine ⟨(i + 1, gb'), ?_, by simp; omega, by simp; omega⟩
      rw [hst]
      (refine cov_of ?_ ?_ <;> simp [go_sem])
    clear hK4
    refine awp_block ?_
    (refine awp_sr fun KK hKK => ?_; simp [go_sem, hx]; ((repeat' (first|(refine ag_x ?_;simp [go_sem, hx])|intro _|refine And.intro ?_ ?_|(apply hKK;clear hKK KK)));all_goals first|refine Hold.mk ?_|omega|with_reducible assumption|(simp only [InR] at *;omega)|skip))
    (refine awp_sr fun KK hKK => ?_; simp [go_sem]; ((repeat' (first|(refine ag_x ?_;simp [go_sem])|intro _|refine And.intro ?_ ?_|(apply hKK;clear hKK KK)));all_goals first|refine Hold.mk ?_|omega|with_reducible assumption|(simp only [InR] at *;omega)|skip))
    (refine awp_if fun T F hT hF => ?_; simp [go_sem]; refine BR.intro (fun h5 => hT ?_) (fun h5 => hF ?_); all_goals clear hT hF T F; try simp at h5) 
    · (refine awp_r fun KK hKK => ?_; simp [go_sem]; ((repeat' (first|(refine ag_x ?_;simp [go_sem])|intro _|refine And.intro ?_ ?_|(apply hKK;clear hKK KK)));all_goals first|refine Hold.mk ?_|omega|with_reducible assumption|(simp only [InR] at *;omega)|skip))
      rename_i ga gb2
      refine tl4 _ gb2 ?_
      rw [if_pos h5]
      (refine cov_of ?_ ?_ <;> simp [go_sem])
    · refine awp_skip ?_
      refine tl4 _ gg ?_
      rw [if_neg (by simp [h5])]
      (refine cov_of ?_ ?_ <;> simp [go_sem])
  · refine awp_exit ?_
    simp only [go_sem]
    refine hK1 _ ?_; clear hK1
    have : i = l.length := by omega
    subst this
    simp only [List.take_length]
    (refine awp_sr fun KK hKK => ?_; simp [go_sem]; ((repeat' (first|(refine ag_x ?_;simp [go_sem])|intro _|refine And.intro ?_ ?_|(apply hKK;clear hKK KK)));all_goals first|refine Hold.mk ?_|omega|with_reducible assumption|(simp only [InR] at *;omega)|skip))
    (refine awp_ret ?_; simp [go_sem])

set_option maxHeartbeats 4000000 in
theorem rmarked_spec (l : List Bool) (hl : l.length ≤ 1000) : PCall Try.prog 78 [dBl l] fun r => r = dIs (markV l) := by 
  refine pcall_of Try.func78 rfl rfl Try.ntmps78 (rs := [.tmp 2]) (tys := [26]) rfl rfl (by simp) ?_
  (refine awp_sr fun KK hKK => ?_; simp [go_sem]; ((repeat' (first|(refine ag_x ?_;simp [go_sem])|intro _|refine And.intro ?_ ?_|(apply hKK;clear hKK KK)));all_goals first|refine Hold.mk ?_|omega|with_reducible assumption|(simp only [InR] at *;omega)|skip))
  (refine awp_sr fun KK hKK => ?_; simp [go_sem]; ((repeat' (first|(refine ag_x ?_;simp [go_sem])|intro _|refine And.intro ?_ ?_|(apply hKK;clear hKK KK)));all_goals first|refine Hold.mk ?_|omega|with_reducible assumption|(simp only [InR] at *;omega)|skip))
  refine awp_nilslot 3 18 3 1 rfl fun gb => ?_
  simp only [go_sem]
  refine awp_seq_k fun K1 hK1 => ?_
  (refine awp_sr fun KK hKK => ?_; simp [go_sem]; ((repeat' (first|(refine ag_x ?_;simp [go_sem])|intro _|refine And.intro ?_ ?_|(apply hKK;clear hKK KK)));all_goals first|refine Hold.mk ?_|omega|with_reducible assumption|(simp only [InR] at *;omega)|skip))
  refine awp_block ?_
  refine awp_loop (σ := Nat × Nat) (fun x => ⟨[(0, dBl l), (3, .own 18 x.2), (4, dI x.1)], [(18, x.2, .row 3 1 ((markV (l.take x.1)).map cI))]⟩) (fun x => x.1 ≤ l.length) (fun x => l.length - x.1) (0, gb) ?_ ?_ ?_
  · (refine cov_of ?_ ?_ <;> simp [go_sem, markV, markFrom])
  · simp
  rintro ⟨i, gg⟩ hx'
  simp only at hx'
  have hml : (markV (l.take i)).length ≤ 1000 := by have := markFrom_len (l.take i) 0; simp at this; unfold markV; omega
  refine awp_seq_k fun K2 hK2 => ?_
  (refine awp_sr fun KK hKK => ?_; simp [go_sem]; ((repeat' (first|(refine ag_x ?_;simp [go_sem])|intro _|refine And.intro ?_ ?_|(apply hKK;clear hKK KK)));all_goals first|refine Hold.mk ?_|omega|with_reducible assumption|(simp only [InR] at *;omega)|skip))
  (refine awp_if fun T F hT hF => ?_; simp [go_sem]; refine BR.intro (fun h3 => hT ?_) (fun h3 => hF ?_); all_goals clear hT hF T F; try simp at h3) 
  · refine awp_skip ?_
    refine hK2 _ ?_; clear hK2
    obtain ⟨x, hx⟩ : ∃ x, l[i]? = some x := ⟨_, List.getElem?_eq_getElem (by omega)⟩
    have hst := markV_step hx
    generalize hacc : markV (l.take i) = acc at hml hst ⊢
    refine awp_seq_k fun K4 hK4 => ?_
    have tl4 : ∀ S' gb', Cov S' ⟨[(0, dBl l), (3, .own 18 gb'), (4, dI i)], [(18, gb', .row 3 1 ((acc ++ (if x then [(i : Int)] else [])).map cI))]⟩ → K4 S' := fun S' gb' hS => by
      refine hK4 _ ?_; clear hK4
      refine awp_cov hS ?_; clear hS
      (refine awp_r fun KK hKK => ?_; simp [go_sem]; ((repeat' (first|(refine ag_x ?_;simp [go_sem])|intro _|refine And.intro ?_ ?_|(apply hKK;clear hKK KK)));all_goals first|refine Hold.mk ?_|omega|with_reducible assumption|(simp only [InR] at *;omega)|skip))
      refine ⟨(i + 1, gb'), ?_, by simp; omega, by simp; omega⟩
      rw [hst]
      (refine cov_of ?_ ?_ <;> simp [go_sem])
    clear hK4
    refine awp_block ?_
    (refine awp_sr fun KK hKK => ?_; simp [go_sem, hx]; ((repeat' (first|(refine ag_x ?_;simp [go_sem, hx])|intro _|refine And.intro ?_ ?_|(apply hKK;clear hKK KK)));all_goals first|refine Hold.mk ?_|omega|with_reducible assumption|(simp only [InR] at *;omega)|skip))
    (refine awp_if fun T F hT hF => ?_; simp [go_sem]; refine BR.intro (fun h5 => hT ?_) (fun h5 => hF ?_); all_goals clear hT hF T F; try simp at h5) 
    · (refine awp_r fun KK hKK => ?_; simp [go_sem]; ((repeat' (first|(refine ag_x ?_;simp [go_sem])|intro _|refine And.intro ?_ ?_|(apply hKK;clear hKK KK)));all_goals first|refine Hold.mk ?_|omega|with_reducible assumption|(simp only [InR] at *;omega)|skip))
      rename_i ga gb2
      refine tl4 _ gb2 ?_
      rw [if_pos h5]
      (refine cov_of ?_ ?_ <;> simp [go_sem])
    · refine awp_skip ?_
      refine tl4 _ gg ?_
      rw [if_neg (by simp [h5])]
      (refine cov_of ?_ ?_ <;> simp [go_sem])
  · refine awp_exit ?_
    simp only [go_sem]
    refine hK1 _ ?_; clear hK1
    have : i = l.length := by omega
    subst this
    simp only [List.take_length]
    (refine awp_sr fun KK hKK => ?_; simp [go_sem]; ((repeat' (first|(refine ag_x ?_;simp [go_sem])|intro _|refine And.intro ?_ ?_|(apply hKK;clear hKK KK)));all_goals first|refine Hold.mk ?_|omega|with_reducible assumption|(simp only [InR] at *;omega)|skip))
    (refine awp_ret ?_; simp [go_sem])
end Go.Proofs.Ytmgbaegdkjcagaa

namespace Go.Proofs.Ytmgbaegdkjcagaa
open Go.Eng
set_option maxRecDepth 20000
set_option linter.unusedSimpArgs false
set_option linter.unusedVariables false
attribute [local irreducible] AG CallA CallT AWp PCall ACall AgC

def gdsV (l : List Ins) : Nat := l.countP fun i => exitsV i.op
theorem gdsV_step {l : List Ins} {k : Nat} {x : Ins} (h : l[k]? = some x) : gdsV (l.take (k + 1)) = gdsV (l.take k) + (if exitsV x.op then 1 else 0) := by
  unfold gdsV
  rw [List.take_add_one, h, List.countP_append]
  simp [List.countP_cons]
theorem gdsV_le (l : List Ins) : gdsV l ≤ l.length := List.countP_le_length

set_option maxHeartbeats 8000000 in
theorem guards_spec (t : Tr) : PCall Try.prog 62 [dTr t] fun r => r = .tup [dI (if trOk t then gdsV t.code else 0), dI (if trOk t then 0 else 1)] := by 
  refine pcall_of Try.func62 rfl rfl Try.ntmps62 (rs := [.tmp 2, .tmp 3]) (tys := [3, 36]) rfl rfl (by simp) ?_
  (refine awp_sr fun KK hKK => ?_; simp [go_sem]; ((repeat' (first|(refine ag_x ?_;simp [go_sem])|intro _|refine And.intro ?_ ?_|(apply hKK;clear hKK KK)));all_goals first|refine Hold.mk ?_|omega|with_reducible assumption|(simp only [InR] at *;omega)|skip))
  refine awp_frzbox 1 rfl rfl ?_
  simp only [go_sem]
  refine awp_seq_k fun K1 hK1 => ?_
  (refine awp_sr fun KK hKK => ?_; simp [go_sem]; ((repeat' (first|(refine ag_x ?_;simp [go_sem])|intro _|refine And.intro ?_ ?_|(apply hKK;clear hKK KK)));all_goals first|refine Hold.mk ?_|omega|with_reducible assumption|(simp only [InR] at *;omega)|skip))
  ((try refine CallT.toA ?_); refine callT_m (by first | exact .inl ⟨rfl, rfl⟩ | exact .inr rfl) (by simp [go_sem]) ?_; intro args ha; simp [go_sem] at ha; subst ha; refine ⟨_, (check_spec t), ?_⟩; rintro _ rfl; simp [go_sem]; ((repeat' (first|(refine ag_x ?_;simp [go_sem])|intro _|refine And.intro ?_ ?_|(apply hKK;clear hKK KK)));all_goals first|refine Hold.mk ?_|omega|with_reducible assumption|(simp only [InR] at *;omega)|skip))
  (refine awp_if fun T F hT hF => ?_; simp [go_sem]; refine BR.intro (fun h2 => hT ?_) (fun h2 => hF ?_); all_goals clear hT hF T F; try simp at h2)
  · (refine awp_sr fun KK hKK => ?_; simp [go_sem]; ((repeat' (first|(refine ag_x ?_;simp [go_sem])|intro _|refine And.intro ?_ ?_|(apply hKK;clear hKK KK)));all_goals first|refine Hold.mk ?_|omega|with_reducible assumption|(simp only [InR] at *;omega)|skip))
    (refine awp_ret ?_; simp [go_sem, h2])
  · refine awp_skip ?_
    have hok : trOk t = true := h2
    have hreg := trOk_regs hok
    refine hK1 _ ?_; clear hK1
    (refine awp_sr fun KK hKK => ?_; simp [go_sem]; ((repeat' (first|(refine ag_x ?_;simp [go_sem])|intro _|refine And.intro ?_ ?_|(apply hKK;clear hKK KK)));all_goals first|refine Hold.mk ?_|omega|with_reducible assumption|(simp only [InR] at *;omega)|skip))
    refine awp_seq_k fun K3 hK3 => ?_
    (refine awp_sr fun KK hKK => ?_; simp [go_sem]; ((repeat' (first|(refine ag_x ?_;simp [go_sem])|intro _|refine And.intro ?_ ?_|(apply hKK;clear hKK KK)));all_goals first|refine Hold.mk ?_|omega|with_reducible assumption|(simp only [InR] at *;omega)|skip))
    refine awp_block ?_
    refine awp_loop (σ := Nat) (fun x => ⟨[(4, dI (gdsV (t.code.take x))), (11, .sl 6 (t.code.map cIns)), (12, dI t.code.length), (13, dI x)], []⟩) (fun x => x ≤ t.code.length) (fun x => t.code.length - x) 0 ?_ ?_ ?_
    · (refine cov_of ?_ ?_ <;> simp [go_sem, gdsV])
    · simp
    intro k hk
    have hg := gdsV_le (t.code.take k)
    (refine awp_sr fun KK hKK => ?_; simp [go_sem]; ((repeat' (first|(refine ag_x ?_;simp [go_sem])|intro _|refine And.intro ?_ ?_|(apply hKK;clear hKK KK)));all_goals first|refine Hold.mk ?_|omega|with_reducible assumption|(simp only [InR] at *;omega)|skip))
    refine awp_seq_k fun K4 hK4 => ?_
    (refine awp_if fun T F hT hF => ?_; simp [go_sem]; refine BR.intro (fun h5 => hT ?_) (fun h5 => hF ?_); all_goals clear hT hF T F; try simp at h5) 
    · refine awp_skip ?_
      refine hK4 _ ?_; clear hK4
      obtain ⟨x, hx⟩ : ∃ x, t.code[k]? = some x := ⟨_, List.getElem?_eq_getElem (by omega)⟩
      have hst := gdsV_step hx
      have hg2 : gdsV (t.code.take k) ≤ 60 := by simp at hg; omega
      generalize hacc : gdsV (t.code.take k) = acc at hg2 hst ⊢
      refine awp_seq_k fun K6 hK6 => ?_
      have tl6 : ∀ S', Cov S' ⟨[(4, dI (acc + (if exitsV x.op then 1 else 0) : Nat)), (11, .sl 6 (t.code.map cIns)), (12, dI t.code.length), (13, dI k)], []⟩ → K6 S' := fun S' hS => by
        refine hK6 _ ?_; clear hK6
        refine awp_cov hS ?_; clear hS
        (refine awp_r fun KK hKK => ?_; simp [go_sem]; ((repeat' (first|(refine ag_x ?_;simp [go_sem])|intro _|refine And.intro ?_ ?_|(apply hKK;clear hKK KK)));all_goals first|refine Hold.mk ?_|omega|with_reducible assumption|(simp only [InR] at *;omega)|skip))
        refine ⟨k + 1, ?_, ?_, ?_⟩
        · rw [hst]
          (refine cov_of ?_ ?_ <;> simp [go_sem])
        · omega
        · omega
      clear hK6
      refine awp_block ?_
      (refine awp_sr fun KK hKK => ?_; simp [go_sem, hx]; ((repeat' (first|(refine ag_x ?_;simp [go_sem, hx])|intro _|refine And.intro ?_ ?_|(apply hKK;clear hKK KK)));all_goals first|refine Hold.mk ?_|omega|with_reducible assumption|(simp only [InR] at *;omega)|skip))
      (refine awp_sr fun KK hKK => ?_; simp [go_sem]; ((repeat' (first|(refine ag_x ?_;simp [go_sem])|intro _|refine And.intro ?_ ?_|(apply hKK;clear hKK KK)));all_goals first|refine Hold.mk ?_|omega|with_reducible assumption|(simp only [InR] at *;omega)|skip))
      ((try refine CallT.toA ?_); refine callT_m (by first | exact .inl ⟨rfl, rfl⟩ | exact .inr rfl) (by simp [go_sem]) ?_; intro args ha; simp [go_sem] at ha; subst ha; refine ⟨_, (exits_spec _), ?_⟩; rintro _ rfl; simp [go_sem]; ((repeat' (first|(refine ag_x ?_;simp [go_sem])|intro _|refine And.intro ?_ ?_|(apply hKK;clear hKK KK)));all_goals first|refine Hold.mk ?_|omega|with_reducible assumption|(simp only [InR] at *;omega)|skip))
      (refine awp_if fun T F hT hF => ?_; simp [go_sem]; refine BR.intro (fun h7 => hT ?_) (fun h7 => hF ?_); all_goals clear hT hF T F; try simp at h7) 
      · (refine awp_r fun KK hKK => ?_; simp [go_sem]; ((repeat' (first|(refine ag_x ?_;simp [go_sem])|intro _|refine And.intro ?_ ?_|(apply hKK;clear hKK KK)));all_goals first|refine Hold.mk ?_|omega|with_reducible assumption|(simp only [InR] at *;omega)|skip))
        refine tl6 _ ?_
        rw [if_pos h7]
        (refine cov_of ?_ ?_ <;> simp [go_sem])
      · refine awp_skip ?_
        refine tl6 _ ?_
        rw [if_neg (by simp [h7])]
        (refine cov_of ?_ ?_ <;> simp [go_sem])
    · refine awp_exit ?_
      simp only [go_sem]
      refine hK3 _ ?_; clear hK3
      have : k = t.code.length := by omega
      subst this
      simp only [List.take_length]
      (refine awp_sr fun KK hKK => ?_; simp [go_sem]; ((repeat' (first|(refine ag_x ?_;simp [go_sem])|intro _|refine And.intro ?_ ?_|(apply hKK;clear hKK KK)));all_goals first|refine Hold.mk ?_|omega|with_reducible assumption|(simp only [InR] at *;omega)|skip))
      (refine awp_ret ?_; simp [go_sem, hok])

set_option maxHeartbeats 8000000 in
theorem rguards_spec (t : Tr) : PCall Try.prog 63 [dTr t] fun r => r = .tup [dI (if trOk t then gdsV t.code else 0), dI (if trOk t then 0 else 1)] := by 
  refine pcall_of Try.func63 rfl rfl Try.ntmps63 (rs := [.tmp 2, .tmp 3]) (tys := [3, 36]) rfl rfl (by simp) ?_
  (refine awp_sr fun KK hKK => ?_; simp [go_sem]; ((repeat' (first|(refine ag_x ?_;simp [go_sem])|intro _|refine And.intro ?_ ?_|(apply hKK;clear hKK KK)));all_goals first|refine Hold.mk ?_|omega|with_reducible assumption|(simp only [InR] at *;omega)|skip))
  refine awp_frzbox 1 rfl rfl ?_
  simp only [go_sem]
  refine awp_seq_k fun K1 hK1 => ?_
  (refine awp_sr fun KK hKK => ?_; simp [go_sem]; ((repeat' (first|(refine ag_x ?_;simp [go_sem])|intro _|refine And.intro ?_ ?_|(apply hKK;clear hKK KK)));all_goals first|refine Hold.mk ?_|omega|with_reducible assumption|(simp only [InR] at *;omega)|skip))
  ((try refine CallT.toA ?_); refine callT_m (by first | exact .inl ⟨rfl, rfl⟩ | exact .inr rfl) (by simp [go_sem]) ?_; intro args ha; simp [go_sem] at ha; subst ha; refine ⟨_, (rvalid_spec t), ?_⟩; rintro _ rfl; simp [go_sem]; ((repeat' (first|(refine ag_x ?_;simp [go_sem])|intro _|refine And.intro ?_ ?_|(apply hKK;clear hKK KK)));all_goals first|refine Hold.mk ?_|omega|with_reducible assumption|(simp only [InR] at *;omega)|skip))
  (refine awp_if fun T F hT hF => ?_; simp [go_sem]; refine BR.intro (fun h2 => hT ?_) (fun h2 => hF ?_); all_goals clear hT hF T F; try simp at h2)
  · (refine awp_sr fun KK hKK => ?_; simp [go_sem]; ((repeat' (first|(refine ag_x ?_;simp [go_sem])|intro _|refine And.intro ?_ ?_|(apply hKK;clear hKK KK)));all_goals first|refine Hold.mk ?_|omega|with_reducible assumption|(simp only [InR] at *;omega)|skip))
    (refine awp_ret ?_; simp [go_sem, h2])
  · refine awp_skip ?_
    have hok : trOk t = true := h2
    have hreg := trOk_regs hok
    refine hK1 _ ?_; clear hK1
    (refine awp_sr fun KK hKK => ?_; simp [go_sem]; ((repeat' (first|(refine ag_x ?_;simp [go_sem])|intro _|refine And.intro ?_ ?_|(apply hKK;clear hKK KK)));all_goals first|refine Hold.mk ?_|omega|with_reducible assumption|(simp only [InR] at *;omega)|skip))
    refine awp_seq_k fun K3 hK3 => ?_
    (refine awp_sr fun KK hKK => ?_; simp [go_sem]; ((repeat' (first|(refine ag_x ?_;simp [go_sem])|intro _|refine And.intro ?_ ?_|(apply hKK;clear hKK KK)));all_goals first|refine Hold.mk ?_|omega|with_reducible assumption|(simp only [InR] at *;omega)|skip))
    refine awp_block ?_
    refine awp_loop (σ := Nat) (fun x => ⟨[(1, .rd [dI t.regs, .sl 6 (t.code.map cIns), .sl 2 (t.exits.map cExi)]), (4, dI (gdsV (t.code.take x))), (5, dI x)], []⟩) (fun x => x ≤ t.code.length) (fun x => t.code.length - x) 0 ?_ ?_ ?_
    · (refine cov_of ?_ ?_ <;> simp [go_sem, gdsV])
    · simp
    intro k hk
    have hg := gdsV_le (t.code.take k)
    refine awp_seq_k fun K4 hK4 => ?_
    (refine awp_sr fun KK hKK => ?_; simp [go_sem]; ((repeat' (first|(refine ag_x ?_;simp [go_sem])|intro _|refine And.intro ?_ ?_|(apply hKK;clear hKK KK)));all_goals first|refine Hold.mk ?_|omega|with_reducible assumption|(simp only [InR] at *;omega)|skip))
    (refine awp_if fun T F hT hF => ?_; simp [go_sem]; refine BR.intro (fun h5 => hT ?_) (fun h5 => hF ?_); all_goals clear hT hF T F; try simp at h5) 
    · refine awp_skip ?_
      refine hK4 _ ?_; clear hK4
      obtain ⟨x, hx⟩ : ∃ x, t.code[k]? = some x := ⟨_, List.getElem?_eq_getElem (by omega)⟩
      obtain ⟨ho1, ho2, _, _, _, _⟩ := insOk_regs (insOk_at hok hx) hreg.1
      have hst := gdsV_step hx
      have hg2 : gdsV (t.code.take k) ≤ 60 := by simp at hg; omega
      generalize hacc : gdsV (t.code.take k) = acc at hg2 hst ⊢
      refine awp_seq_k fun K6 hK6 => ?_
      have tl6 : ∀ S', Cov S' ⟨[(1, .rd [dI t.regs, .sl 6 (t.code.map cIns), .sl 2 (t.exits.map cExi)]), (4, dI (acc + (if exitsV x.op then 1 else 0) : Nat)), (5, dI k)], []⟩ → K6 S' := fun S' hS => by
        refine hK6 _ ?_; clear hK6
        refine awp_cov hS ?_; clear hS
        (refine awp_r fun KK hKK => ?_; simp [go_sem]; ((repeat' (first|(refine ag_x ?_;simp [go_sem])|intro _|refine And.intro ?_ ?_|(apply hKK;clear hKK KK)));all_goals first|refine Hold.mk ?_|omega|with_reducible assumption|(simp only [InR] at *;omega)|skip))
        refine ⟨k + 1, ?_, ?_, ?_⟩
        · rw [hst]
          (refine cov_of ?_ ?_ <;> simp [go_sem])
        · omega
        · omega
      clear hK6
      refine awp_block ?_
      (refine awp_sr fun KK hKK => ?_; simp [go_sem, hx]; ((repeat' (first|(refine ag_x ?_;simp [go_sem, hx])|intro _|refine And.intro ?_ ?_|(apply hKK;clear hKK KK)));all_goals first|refine Hold.mk ?_|omega|with_reducible assumption|(simp only [InR] at *;omega)|skip))
      ((try refine CallT.toA ?_); refine callT_m (by first | exact .inl ⟨rfl, rfl⟩ | exact .inr rfl) (by simp [go_sem]) ?_; intro args ha; simp [go_sem] at ha; subst ha; refine ⟨_, (rexits_spec _ ho1 ho2), ?_⟩; rintro _ rfl; simp [go_sem]; ((repeat' (first|(refine ag_x ?_;simp [go_sem])|intro _|refine And.intro ?_ ?_|(apply hKK;clear hKK KK)));all_goals first|refine Hold.mk ?_|omega|with_reducible assumption|(simp only [InR] at *;omega)|skip))
      (refine awp_if fun T F hT hF => ?_; simp [go_sem]; refine BR.intro (fun h7 => hT ?_) (fun h7 => hF ?_); all_goals clear hT hF T F; try simp at h7) 
      · (refine awp_r fun KK hKK => ?_; simp [go_sem]; ((repeat' (first|(refine ag_x ?_;simp [go_sem])|intro _|refine And.intro ?_ ?_|(apply hKK;clear hKK KK)));all_goals first|refine Hold.mk ?_|omega|with_reducible assumption|(simp only [InR] at *;omega)|skip))
        refine tl6 _ ?_
        rw [if_pos h7]
        (refine cov_of ?_ ?_ <;> simp [go_sem])
      · refine awp_skip ?_
        refine tl6 _ ?_
        rw [if_neg (by simp [h7])]
        (refine cov_of ?_ ?_ <;> simp [go_sem])
    · refine awp_exit ?_
      simp only [go_sem]
      refine hK3 _ ?_; clear hK3
      have : k = t.code.length := by omega
      subst this
      simp only [List.take_length]
      (refine awp_sr fun KK hKK => ?_; simp [go_sem]; ((repeat' (first|(refine ag_x ?_;simp [go_sem])|intro _|refine And.intro ?_ ?_|(apply hKK;clear hKK KK)));all_goals first|refine Hold.mk ?_|omega|with_reducible assumption|(simp only [InR] at *;omega)|skip))
      (refine awp_ret ?_; simp [go_sem, hok])
end Go.Proofs.Ytmgbaegdkjcagaa

namespace Go.Proofs.Ytmgbaegdkjcagaa
open Go.Eng
set_option maxRecDepth 20000
set_option linter.unusedSimpArgs false
set_option linter.unusedVariables false
attribute [local irreducible] AG CallA CallT AWp PCall ACall AgC

/-- the document's test: what a register is written by lies ahead, is invariant, and stands alone -/
def GoodW (code : List Ins) (r : Int) (at' : Nat) (inv : List Bool) (m : Nat) : Prop := m < at' ∧ inv[m]? = some true ∧ ∀ k ∈ wrs code r, k = m
instance (code : List Ins) (r : Int) (at' : Nat) (inv : List Bool) (m : Nat) : Decidable (GoodW code r at' inv m) := inferInstanceAs (Decidable (_ ∧ _ ∧ _))
def stdV (code : List Ins) (r : Int) (at' : Nat) (inv : List Bool) : Bool := decide (∀ m ∈ wrs code r, GoodW code r at' inv m)

set_option maxHeartbeats 8000000 in
theorem rsteady_spec (t : Tr) (r : Int) (at' : Nat) (inv : List Bool) (hok : trOk t = true) (hat : at' ≤ t.code.length) (hi : inv.length = t.code.length) : PCall Try.prog 81 [dTr t, dI r, dI at', dBl inv] fun d => d = dB (stdV t.code r at' inv) := by 
  refine pcall_of Try.func81 rfl rfl Try.ntmps81 (rs := [.tmp 8]) (tys := [4]) rfl rfl (by simp) ?_
  obtain ⟨hr1, hr2, hcl, hel⟩ := trOk_regs hok
  (refine awp_sr fun KK hKK => ?_; simp [go_sem]; ((repeat' (first|(refine ag_x ?_;simp [go_sem])|intro _|refine And.intro ?_ ?_|(apply hKK;clear hKK KK)));all_goals first|refine Hold.mk ?_|omega|with_reducible assumption|(simp only [InR] at *;omega)|skip))
  refine awp_frzbox 4 rfl rfl ?_
  simp only [go_sem]
  refine awp_seq_k fun K1 hK1 => ?_
  (refine awp_sr fun KK hKK => ?_; simp [go_sem]; ((repeat' (first|(refine ag_x ?_;simp [go_sem])|intro _|refine And.intro ?_ ?_|(apply hKK;clear hKK KK)));all_goals first|refine Hold.mk ?_|omega|with_reducible assumption|(simp only [InR] at *;omega)|skip))
  refine awp_block ?_
  refine awp_loop (σ := Nat) (fun x => ⟨[(1, dI r), (2, dI at'), (3, dBl inv), (4, .rd [dI t.regs, .sl 6 (t.code.map cIns), .sl 2 (t.exits.map cExi)]), (9, dI x)], []⟩) (fun x => x ≤ t.code.length ∧ ∀ m ∈ wrs t.code r, m < x → GoodW t.code r at' inv m) (fun x => t.code.length - x) 0 ?_ ?_ ?_
  · (refine cov_of ?_ ?_ <;> simp [go_sem])
  · exact ⟨by simp, fun m _ h => by omega⟩
  rintro i ⟨hil, hgood⟩
  refine awp_seq_k fun K2 hK2 => ?_
  (refine awp_sr fun KK hKK => ?_; simp [go_sem]; ((repeat' (first|(refine ag_x ?_;simp [go_sem])|intro _|refine And.intro ?_ ?_|(apply hKK;clear hKK KK)));all_goals first|refine Hold.mk ?_|omega|with_reducible assumption|(simp only [InR] at *;omega)|skip))
  (refine awp_if fun T F hT hF => ?_; simp [go_sem]; refine BR.intro (fun h3 => hT ?_) (fun h3 => hF ?_); all_goals clear hT hF T F; try simp at h3) 
  · refine awp_skip ?_
    refine hK2 _ ?_; clear hK2
    obtain ⟨x, hx⟩ : ∃ x, t.code[i]? = some x := ⟨_, List.getElem?_eq_getElem (by omega)⟩
    obtain ⟨ho1, ho2, _, _, _, _⟩ := insOk_regs (insOk_at hok hx) hr1
    obtain ⟨b, hb⟩ : ∃ b, inv[i]? = some b := ⟨_, List.getElem?_eq_getElem (by omega)⟩
    refine awp_seq_k fun K4 hK4 => ?_
    have tl4 : ∀ S', (i ∈ wrs t.code r → GoodW t.code r at' inv i) → Cov S' ⟨[(1, dI r), (2, dI at'), (3, dBl inv), (4, .rd [dI t.regs, .sl 6 (t.code.map cIns), .sl 2 (t.exits.map cExi)]), (9, dI i)], []⟩ → K4 S' := fun S' hg hS => by
      refine hK4 _ ?_; clear hK4
      refine awp_cov hS ?_; clear hS
      (refine awp_r fun KK hKK => ?_; simp [go_sem]; ((repeat' (first|(refine ag_x ?_;simp [go_sem])|intro _|refine And.intro ?_ ?_|(apply hKK;clear hKK KK)));all_goals first|refine Hold.mk ?_|omega|with_reducible assumption|(simp only [InR] at *;omega)|skip))
      refine ⟨i + 1, ?_, ⟨by omega, fun m hm hmi => ?_⟩, by omega⟩
      · (refine cov_of ?_ ?_ <;> simp [go_sem])
      · by_cases h : m = i
        · subst h; exact hg hm
        · exact hgood m hm (by omega)
    clear hK4
    refine awp_block ?_
    refine awp_seq_k fun K5 hK5 => ?_
    (refine awp_sr fun KK hKK => ?_; simp [go_sem, hx]; ((repeat' (first|(refine ag_x ?_;simp [go_sem, hx])|intro _|refine And.intro ?_ ?_|(apply hKK;clear hKK KK)));all_goals first|refine Hold.mk ?_|omega|with_reducible assumption|(simp only [InR] at *;omega)|skip))
    ((try refine CallT.toA ?_); refine callT_m (by first | exact .inl ⟨rfl, rfl⟩ | exact .inr rfl) (by simp [go_sem]) ?_; intro args ha; simp [go_sem] at ha; subst ha; refine ⟨_, (has_spec x.op 68 ho1 ho2), ?_⟩; rintro _ rfl; simp [go_sem, hx]; ((repeat' (first|(refine ag_x ?_;simp [go_sem, hx])|intro _|refine And.intro ?_ ?_|(apply hKK;clear hKK KK)));all_goals first|refine Hold.mk ?_|omega|with_reducible assumption|(simp only [InR] at *;omega)|skip))
    have hw : i ∈ wrs t.code r ↔ 68 ∈ flds x.op ∧ x.d = r := by
      rw [mem_wrs, flds_m ho1 ho2]
      constructor
      · rintro ⟨y, hy, h1, h2⟩
        rw [hx] at hy
        simp only [Option.some.injEq] at hy
        subst hy
        exact ⟨h1, h2⟩
      · exact fun h => ⟨x, hx, h⟩
    (refine awp_if fun T F hT hF => ?_; simp [go_sem]; refine BR.intro (fun h6 => hT ?_) (fun h6 => hF ?_); all_goals clear hT hF T F; try simp at h6)
    · refine awp_exit ?_
      simp only [go_sem]
      refine tl4 _ (fun h => ?_) ?_
      · obtain ⟨h1, h2⟩ := hw.1 h
        exact absurd h2 (by simpa [h1] using h6)
      · (refine cov_of ?_ ?_ <;> simp [go_sem])
    · refine awp_skip ?_
      have hiw : i ∈ wrs t.code r := hw.2 (by simpa using h6)
      refine hK5 _ ?_; clear hK5
      refine awp_seq_k fun K7 hK7 => ?_
      (refine awp_sr fun KK hKK => ?_; simp [go_sem, hb]; ((repeat' (first|(refine ag_x ?_;simp [go_sem, hb])|intro _|refine And.intro ?_ ?_|(apply hKK;clear hKK KK)));all_goals first|refine Hold.mk ?_|omega|with_reducible assumption|(simp only [InR] at *;omega)|skip))
      (refine awp_if fun T F hT hF => ?_; simp [go_sem]; refine BR.intro (fun h8 => hT ?_) (fun h8 => hF ?_); all_goals clear hT hF T F; try simp at h8) 
      · (refine awp_sr fun KK hKK => ?_; simp [go_sem]; ((repeat' (first|(refine ag_x ?_;simp [go_sem])|intro _|refine And.intro ?_ ?_|(apply hKK;clear hKK KK)));all_goals first|refine Hold.mk ?_|omega|with_reducible assumption|(simp only [InR] at *;omega)|skip))
        have : stdV t.code r at' inv = false := decide_eq_false fun h => by
          obtain ⟨h1, h2, _⟩ := h i hiw
          rw [hb] at h2
          simp only [Option.some.injEq] at h2
          rw [h2] at h8
          simp at h8
          omega
        (refine awp_ret ?_; simp [go_sem, this])
      · refine awp_skip ?_
        refine hK7 _ ?_; clear hK7
        (refine awp_sr fun KK hKK => ?_; simp [go_sem]; ((repeat' (first|(refine ag_x ?_;simp [go_sem])|intro _|refine And.intro ?_ ?_|(apply hKK;clear hKK KK)));all_goals first|refine Hold.mk ?_|omega|with_reducible assumption|(simp only [InR] at *;omega)|skip))
        refine awp_block ?_
        refine awp_loop (σ := Nat) (fun x => ⟨[(1, dI r), (2, dI at'), (3, dBl inv), (4, .rd [dI t.regs, .sl 6 (t.code.map cIns), .sl 2 (t.exits.map cExi)]), (9, dI i), (10, dI x)], []⟩) (fun x => x ≤ t.code.length ∧ ∀ m ∈ wrs t.code r, m < x → m = i) (fun x => t.code.length - x) 0 ?_ ?_ ?_
        · (refine cov_of ?_ ?_ <;> simp [go_sem])
        · exact ⟨by simp, fun m _ h => by omega⟩
        rintro k ⟨hkl, hkg⟩
        refine awp_seq_k fun K9 hK9 => ?_
        (refine awp_sr fun KK hKK => ?_; simp [go_sem]; ((repeat' (first|(refine ag_x ?_;simp [go_sem])|intro _|refine And.intro ?_ ?_|(apply hKK;clear hKK KK)));all_goals first|refine Hold.mk ?_|omega|with_reducible assumption|(simp only [InR] at *;omega)|skip))
        (refine awp_if fun T F hT hF => ?_; simp [go_sem]; refine BR.intro (fun h10 => hT ?_) (fun h10 => hF ?_); all_goals clear hT hF T F; try simp at h10) 
        · refine awp_skip ?_
          refine hK9 _ ?_; clear hK9
          obtain ⟨y, hy⟩ : ∃ y, t.code[k]? = some y := ⟨_, List.getElem?_eq_getElem (by omega)⟩
          obtain ⟨hp1, hp2, _, _, _, _⟩ := insOk_regs (insOk_at hok hy) hr1
          have hwk : k ∈ wrs t.code r ↔ 68 ∈ flds y.op ∧ y.d = r := by
            rw [mem_wrs, flds_m hp1 hp2]
            constructor
            · rintro ⟨z, hz, h1, h2⟩
              rw [hy] at hz
              simp only [Option.some.injEq] at hz
              subst hz
              exact ⟨h1, h2⟩
            · exact fun h => ⟨y, hy, h⟩
          refine awp_seq_k fun K11 hK11 => ?_
          refine awp_block ?_
          (refine awp_sr fun KK hKK => ?_; simp [go_sem, hy]; ((repeat' (first|(refine ag_x ?_;simp [go_sem, hy])|intro _|refine And.intro ?_ ?_|(apply hKK;clear hKK KK)));all_goals first|refine Hold.mk ?_|omega|with_reducible assumption|(simp only [InR] at *;omega)|skip))
          (refine agc_f (dB ((flds y.op).contains 68)) (by first | exact .inl ⟨rfl, rfl⟩ | exact .inr rfl) ?_ rfl ?_; (intro hc args ha; simp [go_sem] at ha; subst ha; exact (has_spec y.op 68 hp1 hp2)); simp [go_sem, hy]; ((repeat' (first|(refine ag_x ?_;simp [go_sem, hy])|intro _|refine And.intro ?_ ?_|(apply hKK;clear hKK KK)));all_goals first|refine Hold.mk ?_|omega|with_reducible assumption|(simp only [InR] at *;omega)|skip))
          (refine awp_if fun T F hT hF => ?_; simp [go_sem]; refine BR.intro (fun h12 => hT ?_) (fun h12 => hF ?_); all_goals clear hT hF T F; try simp at h12) 
          · (refine awp_sr fun KK hKK => ?_; simp [go_sem]; ((repeat' (first|(refine ag_x ?_;simp [go_sem])|intro _|refine And.intro ?_ ?_|(apply hKK;clear hKK KK)));all_goals first|refine Hold.mk ?_|omega|with_reducible assumption|(simp only [InR] at *;omega)|skip))
            have : stdV t.code r at' inv = false := decide_eq_false fun h => by
              obtain ⟨_, _, h3⟩ := h i hiw
              exact h12.1.1 (h3 k (hwk.2 ⟨h12.1.2, h12.2⟩))
            (refine awp_ret ?_; simp [go_sem, this])
          · refine awp_skip ?_
            refine hK11 _ ?_; clear hK11
            (refine awp_r fun KK hKK => ?_; simp [go_sem]; ((repeat' (first|(refine ag_x ?_;simp [go_sem])|intro _|refine And.intro ?_ ?_|(apply hKK;clear hKK KK)));all_goals first|refine Hold.mk ?_|omega|with_reducible assumption|(simp only [InR] at *;omega)|skip))
            refine ⟨k + 1, ?_, ⟨by omega, fun m hm hmk => ?_⟩, by omega⟩
            · (refine cov_of ?_ ?_ <;> simp [go_sem])
            · by_cases h : m = k
              · subst h
                obtain ⟨h1, h2⟩ := hwk.1 hm
                simp [h1, h2] at h12
                omega
              · exact hkg m hm (by omega)
        · refine awp_exit ?_
          simp only [go_sem]
          refine tl4 _ (fun _ => ?_) ?_
          · refine ⟨?_, ?_, fun m hm => hkg m hm ?_⟩
            · omega
            · rw [hb, h8.2]
            · obtain ⟨i', h, _⟩ := mem_wrs.1 hm
              have := (List.getElem?_eq_some_iff.1 h).1
              omega
          · (refine cov_of ?_ ?_ <;> simp [go_sem])
  · refine awp_exit ?_
    simp only [go_sem]
    refine hK1 _ ?_; clear hK1
    have : stdV t.code r at' inv = true := decide_eq_true fun m hm => hgood m hm (by
      obtain ⟨i', h, _⟩ := mem_wrs.1 hm
      have := (List.getElem?_eq_some_iff.1 h).1
      omega)
    (refine awp_sr fun KK hKK => ?_; simp [go_sem]; ((repeat' (first|(refine ag_x ?_;simp [go_sem])|intro _|refine And.intro ?_ ?_|(apply hKK;clear hKK KK)));all_goals first|refine Hold.mk ?_|omega|with_reducible assumption|(simp only [InR] at *;omega)|skip))
    (refine awp_ret ?_; simp [go_sem, this])
end Go.Proofs.Ytmgbaegdkjcagaa

namespace Go.Proofs.Ytmgbaegdkjcagaa
open Go.Eng

theorem wrFrom_sorted (r : Int) : ∀ (l : List Ins) (k : Nat), (wrFrom r l k).Pairwise (· < ·)
  | [], k => by simp [wrFrom]
  | i :: l, k => by
    have ih := wrFrom_sorted r l (k + 1)
    simp only [wrFrom]
    split
    · rw [List.pairwise_cons]
      refine ⟨fun j hj => ?_, ih⟩
      have := ((mem_wrFrom r l (k + 1) j).1 hj).1
      omega
    · simpa using ih
/-- a row of truths that marks a list -/
def Marks (inv : List Bool) (out : List Nat) : Prop := ∀ m, inv[m]? = some true ↔ m ∈ out
theorem steady_varies {code : List Ins} {r : Int} {at' : Nat} {inv : List Bool} {out : List Nat} (h : Marks inv out) (ho : ∀ m ∈ out, m < at') : stdV code r at' inv = !varies code out r := by
  have hs := wrFrom_sorted r code 0
  rw [Bool.eq_iff_iff]
  change (wrs code r).Pairwise (· < ·) at hs
  simp only [stdV, varies, GoodW, decide_eq_true_eq, h _]
  generalize wrs code r = w at hs ⊢
  match w, hs with
  | [], _ => simp
  | [m], _ => simp; exact fun h => ho m h
  | m :: k :: l, hs =>
    rw [List.pairwise_cons] at hs
    have := hs.1 k (by simp)
    simp
    intro _ _ h
    omega
end Go.Proofs.Ytmgbaegdkjcagaa

namespace Go.Proofs.Ytmgbaegdkjcagaa
open Go.Eng
set_option maxRecDepth 20000
set_option linter.unusedSimpArgs false
set_option linter.unusedVariables false
attribute [local irreducible] AG CallA CallT AWp PCall ACall AgC

def maskV (n : Nat) (out : List Nat) : List Bool := (List.range n).map fun m => out.contains m
theorem maskV_len (n : Nat) (out : List Nat) : (maskV n out).length = n := by simp [maskV]
theorem maskV_marks {n : Nat} {out : List Nat} (h : ∀ m ∈ out, m < n) : Marks (maskV n out) out := fun m => by
  unfold maskV
  rw [List.getElem?_map]
  by_cases hm : m < n
  · simp [List.getElem?_range hm]
  · have : (List.range n)[m]? = none := by simp; omega
    rw [this]
    simp
    exact fun h' => hm (h m h')
theorem maskV_set {n k : Nat} {out : List Nat} (hk : k < n) (ho : ∀ m ∈ out, m < k) (c : Bool) : (maskV n out).set k c = maskV n (if c then out ++ [k] else out) := by
  apply List.ext_getElem?
  intro m
  rw [List.getElem?_set]
  unfold maskV
  simp only [List.length_map, List.length_range, List.getElem?_map]
  by_cases hm : m < n
  · rw [List.getElem?_range hm]
    by_cases h : k = m
    · subst h
      rw [if_pos rfl, if_pos hk]
      have : ¬ k ∈ out := fun h => by have := ho k h; omega
      cases c <;> simp [this]
    · rw [if_neg h]
      cases c <;> simp
      intro e; omega
  · have : (List.range n)[m]? = none := by simp; omega
    rw [this, if_neg (by omega)]
    rfl

theorem reads_any {t : Tr} {i : Ins} (p : Int → Bool) (h0 : 0 ≤ i.op) (h8 : i.op ≤ 8) : (readsV t i false).any p = ((decide (65 ∈ flds i.op) && p i.a) || (decide (66 ∈ flds i.op) && p i.b)) := by
  have : i.op = 0 ∨ i.op = 1 ∨ i.op = 2 ∨ i.op = 3 ∨ i.op = 4 ∨ i.op = 5 ∨ i.op = 6 ∨ i.op = 7 ∨ i.op = 8 := by omega
  rcases this with h | h | h | h | h | h | h | h | h <;> simp [readsV, flds, h, readsC]
theorem markFrom_mask (out : List Nat) : ∀ (n k : Nat), out.Pairwise (· < ·) → (∀ m ∈ out, k ≤ m ∧ m < k + n) → markFrom ((List.range' k n).map fun m => out.contains m) k = nI out
  | 0, k, _, h => by
    have : out = [] := List.eq_nil_iff_forall_not_mem.2 fun m hm => by have := h m hm; omega
    simp [this, markFrom, nI]
  | n + 1, k, hs, h => by
    rw [List.range'_succ, List.map_cons, markFrom]
    match out, hs, h with
    | [], _, h =>
      have := markFrom_mask [] n (k + 1) (by simp) (by simp)
      simpa [nI] using this
    | m :: out, hs, h =>
      rw [List.pairwise_cons] at hs
      by_cases hmk : m = k
      · subst hmk
        have hc : (List.range' (m + 1) n).map (fun j => (m :: out).contains j) = (List.range' (m + 1) n).map (fun j => out.contains j) := by
          apply List.map_congr_left
          intro j hj
          have := List.mem_range'_1.1 hj
          have hjm : ¬ j = m := by omega
          simp [List.contains_cons, hjm]
        rw [hc, markFrom_mask out n (m + 1) hs.2 (fun j hj => ⟨hs.1 j hj, by have := h j (by simp [hj]); omega⟩)]
        simp [nI]
      · have hk := h m (by simp)
        have hn : ∀ j ∈ m :: out, k < j := fun j hj => by
          rcases List.mem_cons.1 hj with h | h
          · omega
          · have := hs.1 j h; omega
        have : (m :: out).contains k = false := by
          rw [Bool.eq_false_iff]
          intro hc
          have := hn k (by simpa using hc)
          omega
        rw [this, markFrom_mask (m :: out) n (k + 1) (List.pairwise_cons.2 hs) (fun j hj => ⟨hn j hj, by have := h j hj; omega⟩)]
        simp
theorem markV_mask {n : Nat} {out : List Nat} (hs : out.Pairwise (· < ·)) (h : ∀ m ∈ out, m < n) : markV (maskV n out) = nI out := by
  have := markFrom_mask out n 0 hs (fun m hm => ⟨by omega, by have := h m hm; omega⟩)
  unfold markV maskV
  rw [List.range_eq_range']
  exact this

set_option maxHeartbeats 8000000 in
theorem rinvariant_spec (t : Tr) : PCall Try.prog 61 [dTr t] fun r => r = .tup [dIs (if trOk t then nI (invV t) else []), dI (if trOk t then 0 else 1)] := by 
  refine pcall_of Try.func61 rfl rfl Try.ntmps61 (rs := [.tmp 2, .tmp 3]) (tys := [26, 36]) rfl rfl (by simp) ?_
  (refine awp_sr fun KK hKK => ?_; simp [go_sem]; ((repeat' (first|(refine ag_x ?_;simp [go_sem])|intro _|refine And.intro ?_ ?_|(apply hKK;clear hKK KK)));all_goals first|refine Hold.mk ?_|omega|with_reducible assumption|(simp only [InR] at *;omega)|skip))
  refine awp_frzbox 1 rfl rfl ?_
  simp only [go_sem]
  refine awp_seq_k fun K1 hK1 => ?_
  (refine awp_sr fun KK hKK => ?_; simp [go_sem]; ((repeat' (first|(refine ag_x ?_;simp [go_sem])|intro _|refine And.intro ?_ ?_|(apply hKK;clear hKK KK)));all_goals first|refine Hold.mk ?_|omega|with_reducible assumption|(simp only [InR] at *;omega)|skip))
  ((try refine CallT.toA ?_); refine callT_m (by first | exact .inl ⟨rfl, rfl⟩ | exact .inr rfl) (by simp [go_sem]) ?_; intro args ha; simp [go_sem] at ha; subst ha; refine ⟨_, (rvalid_spec t), ?_⟩; rintro _ rfl; simp [go_sem]; ((repeat' (first|(refine ag_x ?_;simp [go_sem])|intro _|refine And.intro ?_ ?_|(apply hKK;clear hKK KK)));all_goals first|refine Hold.mk ?_|omega|with_reducible assumption|(simp only [InR] at *;omega)|skip))
  (refine awp_if fun T F hT hF => ?_; simp [go_sem]; refine BR.intro (fun h2 => hT ?_) (fun h2 => hF ?_); all_goals clear hT hF T F; try simp at h2)
  · (refine awp_sr fun KK hKK => ?_; simp [go_sem]; ((repeat' (first|(refine ag_x ?_;simp [go_sem])|intro _|refine And.intro ?_ ?_|(apply hKK;clear hKK KK)));all_goals first|refine Hold.mk ?_|omega|with_reducible assumption|(simp only [InR] at *;omega)|skip))
    (refine awp_ret ?_; simp [go_sem, h2])
  · refine awp_skip ?_
    have hok : trOk t = true := h2
    obtain ⟨hr1, hr2, hcl, hel⟩ := trOk_regs hok
    refine hK1 _ ?_; clear hK1
    (refine awp_sr fun KK hKK => ?_; simp [go_sem]; ((repeat' (first|(refine ag_x ?_;simp [go_sem])|intro _|refine And.intro ?_ ?_|(apply hKK;clear hKK KK)));all_goals first|refine Hold.mk ?_|omega|with_reducible assumption|(simp only [InR] at *;omega)|skip))
    rename_i gl
    refine awp_seq_k fun K3 hK3 => ?_
    (refine awp_sr fun KK hKK => ?_; simp [go_sem]; ((repeat' (first|(refine ag_x ?_;simp [go_sem])|intro _|refine And.intro ?_ ?_|(apply hKK;clear hKK KK)));all_goals first|refine Hold.mk ?_|omega|with_reducible assumption|(simp only [InR] at *;omega)|skip))
    refine awp_block ?_
    refine awp_loop (σ := Nat × List Nat) (fun x => ⟨[(1, .rd [dI t.regs, .sl 6 (t.code.map cIns), .sl 2 (t.exits.map cExi)]), (4, .own 13 gl), (5, dI x.1)], [(13, gl, .row 4 1 ((maskV t.code.length x.2).map cBo))]⟩) (fun x => x.1 ≤ t.code.length ∧ (∀ m ∈ x.2, m < x.1) ∧ x.2.Pairwise (· < ·) ∧ invFrom t (t.code.drop x.1) x.1 x.2 = invV t) (fun x => t.code.length - x.1) (0, []) ?_ ?_ ?_
    · have hm : List.replicate t.code.length [D.v (.bool false)] = (maskV t.code.length []).map cBo := by
        symm
        rw [List.eq_replicate_iff]
        refine ⟨by simp [maskV], fun b hb => ?_⟩
        simp [maskV] at hb
        exact hb.2.symm
      rw [hm]
      (refine cov_of ?_ ?_ <;> simp [go_sem])
    · exact ⟨by simp, by simp, by simp, rfl⟩
    rintro ⟨k, out⟩ ⟨hk, ho, hpw, hinv⟩
    simp only at hk ho hpw hinv
    have hml := maskV_len t.code.length out
    refine awp_seq_k fun K4 hK4 => ?_
    (refine awp_sr fun KK hKK => ?_; simp [go_sem]; ((repeat' (first|(refine ag_x ?_;simp [go_sem])|intro _|refine And.intro ?_ ?_|(apply hKK;clear hKK KK)));all_goals first|refine Hold.mk ?_|omega|with_reducible assumption|(simp only [InR] at *;omega)|skip))
    (refine awp_if fun T F hT hF => ?_; simp [go_sem]; refine BR.intro (fun h5 => hT ?_) (fun h5 => hF ?_); all_goals clear hT hF T F; try simp at h5)
    · refine awp_skip ?_
      refine hK4 _ ?_; clear hK4
      obtain ⟨x, hx⟩ : ∃ x, t.code[k]? = some x := ⟨_, List.getElem?_eq_getElem (by omega)⟩
      obtain ⟨ho1, ho2, _, _, _, _⟩ := insOk_regs (insOk_at hok hx) hr1
      have hdrop : t.code.drop k = x :: t.code.drop (k + 1) := by
        rw [List.drop_eq_getElem_cons (by omega)]
        rw [List.getElem?_eq_getElem (by omega)] at hx
        simp only [Option.some.injEq] at hx
        rw [hx]
      rw [hdrop] at hinv
      simp only [invFrom] at hinv
      refine awp_seq_k fun K6 hK6 => ?_
      have tl6 : ∀ S' out', invStep t out k x = out' → Cov S' ⟨[(1, .rd [dI t.regs, .sl 6 (t.code.map cIns), .sl 2 (t.exits.map cExi)]), (4, .own 13 gl), (5, dI k)], [(13, gl, .row 4 1 ((maskV t.code.length out').map cBo))]⟩ → K6 S' := fun S' out' he hS => by
        subst he
        refine hK6 _ ?_; clear hK6
        refine awp_cov hS ?_; clear hS
        (refine awp_r fun KK hKK => ?_; simp [go_sem]; ((repeat' (first|(refine ag_x ?_;simp [go_sem])|intro _|refine And.intro ?_ ?_|(apply hKK;clear hKK KK)));all_goals first|refine Hold.mk ?_|omega|with_reducible assumption|(simp only [InR] at *;omega)|skip))
        refine ⟨(k + 1, invStep t out k x), ?_, ⟨by simp; omega, fun m hm => ?_, ?_, hinv⟩, by simp; omega⟩
        · (refine cov_of ?_ ?_ <;> simp [go_sem])
        · simp only at hm ⊢
          unfold invStep at hm
          split at hm
          · rcases List.mem_append.1 hm with h | h
            · have := ho m h; omega
            · rw [List.mem_singleton.1 h]; omega
          · have := ho m hm; omega
        · unfold invStep
          simp only
          split
          · rw [List.pairwise_append]
            exact ⟨hpw, by simp, fun a ha b hb => by rw [List.mem_singleton.1 hb]; exact ho a ha⟩
          · exact hpw
      clear hK6
      refine awp_block ?_
      (refine awp_sr fun KK hKK => ?_; simp [go_sem, hx]; ((repeat' (first|(refine ag_x ?_;simp [go_sem, hx])|intro _|refine And.intro ?_ ?_|(apply hKK;clear hKK KK)));all_goals first|refine Hold.mk ?_|omega|with_reducible assumption|(simp only [InR] at *;omega)|skip))
      rename_i g6
      refine awp_frzbox 6 rfl rfl ?_
      simp only [go_sem]
      (refine awp_sr fun KK hKK => ?_; simp [go_sem]; ((repeat' (first|(refine ag_x ?_;simp [go_sem])|intro _|refine And.intro ?_ ?_|(apply hKK;clear hKK KK)));all_goals first|refine Hold.mk ?_|omega|with_reducible assumption|(simp only [InR] at *;omega)|skip))
      ((try refine CallT.toA ?_); refine callT_m (by first | exact .inl ⟨rfl, rfl⟩ | exact .inr rfl) (by simp [go_sem]) ?_; intro args ha; simp [go_sem] at ha; subst ha; refine ⟨_, (has_spec x.op 68 ho1 ho2), ?_⟩; rintro _ rfl; simp [go_sem]; ((repeat' (first|(refine ag_x ?_;simp [go_sem])|intro _|refine And.intro ?_ ?_|(apply hKK;clear hKK KK)));all_goals first|refine Hold.mk ?_|omega|with_reducible assumption|(simp only [InR] at *;omega)|skip))
      (refine awp_if fun T F hT hF => ?_; simp [go_sem]; refine BR.intro (fun h7 => hT ?_) (fun h7 => hF ?_); all_goals clear hT hF T F; try simp at h7)
      · obtain ⟨bk, hbk⟩ : ∃ b, (maskV t.code.length out)[k]? = some b := ⟨_, List.getElem?_eq_getElem (by omega)⟩
        (refine awp_r fun KK hKK => ?_; simp [go_sem]; ((repeat' (first|(refine ag_x ?_;simp [go_sem])|intro _|refine And.intro ?_ ?_|(apply hKK;clear hKK KK)));all_goals first|refine Hold.mk ?_|omega|with_reducible assumption|(simp only [InR] at *;omega)|skip))
        ((try refine CallT.toA ?_); refine callT_m (by first | exact .inl ⟨rfl, rfl⟩ | exact .inr rfl) (by simp [go_sem]) ?_; intro args ha; simp [go_sem] at ha; subst ha; refine ⟨_, (has_spec x.op 65 ho1 ho2), ?_⟩; rintro _ rfl; simp [go_sem]; ((repeat' (first|(refine ag_x ?_;simp [go_sem])|intro _|refine And.intro ?_ ?_|(apply hKK;clear hKK KK)));all_goals first|refine Hold.mk ?_|omega|with_reducible assumption|(simp only [InR] at *;omega)|skip))
        (refine agc_f (dB (stdV t.code x.a k (maskV t.code.length out))) (by first | exact .inl ⟨rfl, rfl⟩ | exact .inr rfl) ?_ rfl ?_; (intro hc args ha; simp [go_sem] at ha; subst ha; exact (rsteady_spec t x.a k (maskV t.code.length out) hok (by omega) (maskV_len _ _))); simp [go_sem, hx]; ((repeat' (first|(refine ag_x ?_;simp [go_sem, hx])|intro _|refine And.intro ?_ ?_|(apply hKK;clear hKK KK)));all_goals first|refine Hold.mk ?_|omega|with_reducible assumption|(simp only [InR] at *;omega)|skip))
        (refine agc_f (dB ((flds x.op).contains 66)) (by first | exact .inl ⟨rfl, rfl⟩ | exact .inr rfl) ?_ rfl ?_; (intro hc args ha; simp [go_sem] at ha; subst ha; exact (has_spec x.op 66 ho1 ho2)); simp [go_sem, hx]; ((repeat' (first|(refine ag_x ?_;simp [go_sem, hx])|intro _|refine And.intro ?_ ?_|(apply hKK;clear hKK KK)));all_goals first|refine Hold.mk ?_|omega|with_reducible assumption|(simp only [InR] at *;omega)|skip))
        (refine agc_f (dB (stdV t.code x.b k (maskV t.code.length out))) (by first | exact .inl ⟨rfl, rfl⟩ | exact .inr rfl) ?_ rfl ?_; (intro hc args ha; simp [go_sem] at ha; subst ha; exact (rsteady_spec t x.b k (maskV t.code.length out) hok (by omega) (maskV_len _ _))); simp [go_sem, hx, hbk]; ((repeat' (first|(refine ag_x ?_;simp [go_sem, hx, hbk])|intro _|refine And.intro ?_ ?_|(apply hKK;clear hKK KK)));all_goals first|refine Hold.mk ?_|omega|with_reducible assumption|(simp only [InR] at *;omega)|skip))
        refine tl6 _ (if ((!decide (65 ∈ flds x.op) || stdV t.code x.a k (maskV t.code.length out)) && (!decide (66 ∈ flds x.op) || stdV t.code x.b k (maskV t.code.length out))) then out ++ [k] else out) ?_ ?_
        · have hm8 := (flds_m ho1 ho2).1 h7
          have hmk := maskV_marks (n := t.code.length) (out := out) (fun m hm => by have := ho m hm; omega)
          rw [steady_varies hmk ho, steady_varies hmk ho]
          unfold invStep
          rw [reads_any _ ho1 hm8]
          cases decide (65 ∈ flds x.op) <;> cases decide (66 ∈ flds x.op) <;> cases varies t.code out x.a <;> cases varies t.code out x.b <;> simp [hm8]
        · rw [← maskV_set h5 ho]
          (refine cov_of ?_ ?_ <;> simp [go_sem])
      · refine awp_skip ?_
        refine tl6 _ out ?_ ?_
        · have : ¬ x.op ≤ 8 := fun h => h7 ((flds_m ho1 ho2).2 h)
          simp [invStep, this]
        · (refine cov_of ?_ ?_ <;> simp [go_sem])
    · refine awp_exit ?_
      simp only [go_sem]
      refine hK3 _ ?_; clear hK3
      have : k = t.code.length := by omega
      subst this
      simp only [List.drop_length, invFrom] at hinv
      subst hinv
      (refine awp_sr fun KK hKK => ?_; simp [go_sem]; ((repeat' (first|(refine ag_x ?_;simp [go_sem])|intro _|refine And.intro ?_ ?_|(apply hKK;clear hKK KK)));all_goals first|refine Hold.mk ?_|omega|with_reducible assumption|(simp only [InR] at *;omega)|skip))
      ((try refine CallT.toA ?_); refine callT_z (by first | exact .inl ⟨rfl, rfl⟩ | exact .inr rfl) rfl (by simp [go_sem]) (by simp [go_sem]) ?_; intro args ha; simp [go_sem] at ha; subst ha; refine ⟨_, (rmarked_spec (maskV t.code.length (invV t)) (by omega)), ?_⟩; rintro _ rfl; simp [go_sem]; ((repeat' (first|(refine ag_x ?_;simp [go_sem])|intro _|refine And.intro ?_ ?_|(apply hKK;clear hKK KK)));all_goals first|refine Hold.mk ?_|omega|with_reducible assumption|(simp only [InR] at *;omega)|skip))
      (refine awp_ret ?_; simp [go_sem, hok, markV_mask hpw ho])
end Go.Proofs.Ytmgbaegdkjcagaa
