/- Part of a proof: see the last text. -/
import Derived.Test.YtmgbaegdkjcagaaWA
set_option linter.unusedVariables false
set_option linter.unusedSimpArgs false
namespace Go.Proofs.Ytmgbaegdkjcagaa
open Go.Eng
set_option maxRecDepth 20000
attribute [local irreducible] AG CallA CallT AWp PCall ACall

def fidx {α : Type} (p : α → Bool) : List α → Int
  | [] => -1
  | x :: l => if p x then 0 else if fidx p l = -1 then -1 else fidx p l + 1
theorem fidx_ge {α : Type} (p : α → Bool) (l : List α) : -1 ≤ fidx p l := by
  induction l with
  | nil => simp [fidx]
  | cons x l ih =>
    simp only [fidx]
    split
    · omega
    · split <;> omega
theorem fidx_at {α : Type} {p : α → Bool} : ∀ {l : List α} {i : Nat} {x : α}, (l.take i).any p = false → l[i]? = some x → p x = true → fidx p l = i
  | [], i, x, _, h, _ => by simp at h
  | y :: l, 0, x, _, h, hp => by simp at h; subst h; simp [fidx, hp]
  | y :: l, i + 1, x, h1, h, hp => by
    simp only [List.take_succ_cons, List.any_cons, Bool.or_eq_false_iff] at h1
    have ih := fidx_at h1.2 (by simpa using h) hp
    simp only [fidx, h1.1, Bool.false_eq_true, if_false, ih]
    rw [if_neg (by omega)]
    simp
theorem fidx_none {α : Type} {p : α → Bool} {l : List α} (h : l.any p = false) : fidx p l = -1 := by
  induction l with
  | nil => rfl
  | cons x l ih =>
    simp only [List.any_cons, Bool.or_eq_false_iff] at h
    simp [fidx, h.1, ih h.2]
theorem fidx_any {α : Type} (p : α → Bool) (l : List α) : decide (0 ≤ fidx p l) = l.any p := by
  induction l with
  | nil => rfl
  | cons x l ih =>
    have hg := fidx_ge p l
    simp only [List.any_cons]
    rw [← ih]
    by_cases h : p x = true
    · simp [fidx, h]
    · have h := Bool.eq_false_iff.2 h
      simp only [fidx, h, Bool.false_eq_true, if_false, Bool.false_or]
      refine decide_eq_decide.2 ?_
      split <;> omega
theorem take_any {α : Type} {p : α → Bool} {l : List α} {i : Nat} {x : α} (h : (l.take i).any p = false) (hx : l[i]? = some x) (hp : p x = false) : (l.take (i + 1)).any p = false := by
  rw [List.take_add_one, hx, List.any_append, h]
  simp [hp]

@[go_sem] abbrev cB (b : UInt8) : List D := [.v (.int .u8 b.toNat)]
@[go_sem] abbrev dBs (l : List UInt8) : D := .sl 1 (l.map cB)
def isB (c : Int) (b : UInt8) : Bool := decide (c = b.toNat)

theorem indexB_spec (l : List UInt8) (c : Int) (hl : l.length ≤ 2 ^ 40) : PCall Try.prog 82 [dBs l, .v (.int .u8 c)] fun r => r = dI (fidx (isB c) l) := by 
  refine pcall_of Try.func82 rfl rfl Try.ntmps82 (rs := [.tmp 4]) (tys := [3]) rfl rfl (by simp) ?_
  (refine awp_sr fun KK hKK => ?_; simp [go_sem]; ((repeat' (first|(refine ag_x ?_;simp [go_sem])|intro _|refine And.intro ?_ ?_|(apply hKK;clear hKK KK)));all_goals first|refine Hold.mk ?_|omega|with_reducible assumption|(simp only [InR] at *;omega)|skip))
  refine awp_seq_k fun K1 hK1 => ?_
  (refine awp_sr fun KK hKK => ?_; simp [go_sem]; ((repeat' (first|(refine ag_x ?_;simp [go_sem])|intro _|refine And.intro ?_ ?_|(apply hKK;clear hKK KK)));all_goals first|refine Hold.mk ?_|omega|with_reducible assumption|(simp only [InR] at *;omega)|skip))
  refine awp_block ?_
  refine awp_loop (σ := Nat) (fun i => ⟨[(0, dBs l), (1, .v (.int .u8 c)), (7, dI l.length), (8, dI i)], []⟩) (fun i => i ≤ l.length ∧ (l.take i).any (isB c) = false) (fun i => l.length - i) 0 ?_ ?_ ?_
  · (refine cov_of ?_ ?_ <;> simp [go_sem])
  · simp
  rintro i ⟨hi, hany⟩
  (refine awp_sr fun KK hKK => ?_; simp [go_sem]; ((repeat' (first|(refine ag_x ?_;simp [go_sem])|intro _|refine And.intro ?_ ?_|(apply hKK;clear hKK KK)));all_goals first|refine Hold.mk ?_|omega|with_reducible assumption|(simp only [InR] at *;omega)|skip))
  refine awp_seq_k fun K2 hK2 => ?_
  (refine awp_if fun T F hT hF => ?_; simp [go_sem]; refine BR.intro (fun h3 => hT ?_) (fun h3 => hF ?_); all_goals clear hT hF T F; try simp at h3) 
  · refine awp_skip ?_
    refine hK2 _ ?_; clear hK2
    obtain ⟨x, hx⟩ : ∃ x, l[i]? = some x := ⟨_, List.getElem?_eq_getElem h3⟩
    refine awp_seq_k fun K4 hK4 => ?_
    refine awp_block ?_
    (refine awp_sr fun KK hKK => ?_; simp [go_sem]; ((repeat' (first|(refine ag_x ?_;simp [go_sem])|intro _|refine And.intro ?_ ?_|(apply hKK;clear hKK KK)));all_goals first|refine Hold.mk ?_|omega|with_reducible assumption|(simp only [InR] at *;omega)|skip))
    (refine awp_sr fun KK hKK => ?_; simp [go_sem, hx]; ((repeat' (first|(refine ag_x ?_;simp [go_sem, hx])|intro _|refine And.intro ?_ ?_|(apply hKK;clear hKK KK)));all_goals first|refine Hold.mk ?_|omega|with_reducible assumption|(simp only [InR] at *;omega)|skip))
    (refine awp_if fun T F hT hF => ?_; simp [go_sem]; refine BR.intro (fun h5 => hT ?_) (fun h5 => hF ?_); all_goals clear hT hF T F; try simp at h5)
    · (refine awp_sr fun KK hKK => ?_; simp [go_sem]; ((repeat' (first|(refine ag_x ?_;simp [go_sem])|intro _|refine And.intro ?_ ?_|(apply hKK;clear hKK KK)));all_goals first|refine Hold.mk ?_|omega|with_reducible assumption|(simp only [InR] at *;omega)|skip))
      (refine awp_ret ?_; simp [go_sem])
      rw [fidx_at hany hx (by simp [isB, h5])]
    · refine awp_skip ?_
      simp only [go_sem]
      refine hK4 _ ?_; clear hK4
      (refine awp_r fun KK hKK => ?_; simp [go_sem]; ((repeat' (first|(refine ag_x ?_;simp [go_sem])|intro _|refine And.intro ?_ ?_|(apply hKK;clear hKK KK)));all_goals first|refine Hold.mk ?_|omega|with_reducible assumption|(simp only [InR] at *;omega)|skip))
      refine ⟨i + 1, ?_, ⟨h3, ?_⟩, by omega⟩
      · (refine cov_of ?_ ?_ <;> simp [go_sem])
      · exact take_any hany hx (by simp [isB, h5])
  · refine awp_exit ?_
    simp only [go_sem]
    refine hK1 _ ?_; clear hK1
    (refine awp_sr fun KK hKK => ?_; simp [go_sem]; ((repeat' (first|(refine ag_x ?_;simp [go_sem])|intro _|refine And.intro ?_ ?_|(apply hKK;clear hKK KK)));all_goals first|refine Hold.mk ?_|omega|with_reducible assumption|(simp only [InR] at *;omega)|skip))
    (refine awp_ret ?_; simp [go_sem])
    have : i = l.length := by omega
    subst this
    rw [List.take_length] at hany
    rw [fidx_none hany]
theorem containsB_spec (l : List UInt8) (c : Int) (hl : l.length ≤ 2 ^ 40) : PCall Try.prog 70 [dBs l, .v (.int .u8 c)] fun r => r = dB (l.any (isB c)) := by
  refine pcall_of Try.func70 rfl rfl Try.ntmps70 (rs := [.tmp 4]) (tys := [4]) rfl rfl (by simp) ?_
  (refine awp_sr fun KK hKK => ?_; simp [go_sem]; ((repeat' (first|(refine ag_x ?_;simp [go_sem])|intro _|refine And.intro ?_ ?_|(apply hKK;clear hKK KK)));all_goals first|refine Hold.mk ?_|omega|with_reducible assumption|(simp only [InR] at *;omega)|skip))
  (refine awp_sr fun KK hKK => ?_; simp [go_sem]; ((repeat' (first|(refine ag_x ?_;simp [go_sem])|intro _|refine And.intro ?_ ?_|(apply hKK;clear hKK KK)));all_goals first|refine Hold.mk ?_|omega|with_reducible assumption|(simp only [InR] at *;omega)|skip))
  ((try refine CallT.toA ?_); refine callT_m (by first | exact .inl ⟨rfl, rfl⟩ | exact .inr rfl) (by simp [go_sem]) ?_; intro args ha; simp [go_sem] at ha; subst ha; refine ⟨_, (indexB_spec _ _ hl), ?_⟩; rintro _ rfl; simp [go_sem]; ((repeat' (first|(refine ag_x ?_;simp [go_sem])|intro _|refine And.intro ?_ ?_|(apply hKK;clear hKK KK)));all_goals first|refine Hold.mk ?_|omega|with_reducible assumption|(simp only [InR] at *;omega)|skip))
  (refine awp_ret ?_; simp [go_sem, fidx_any])
def fldAt (c : Int) : Nat := if c = 68 then 1 else if c = 65 then 2 else if c = 66 then 3 else if c = 78 then 4 else 5
theorem field_spec (i : Ins) (c : Int) : PCall Try.prog 69 [.rd (cIns i), .v (.int .u8 c)] fun r => r = .rd ((cIns i).drop (fldAt c)) := by
  refine pcall_of Try.func69 rfl rfl Try.ntmps69 (rs := [.tmp 4]) (tys := [106]) rfl rfl (by simp) ?_
  (repeat' (first | ((first|refine awp_sr fun KK hKK => ?_|refine awp_r fun KK hKK => ?_);simp [go_sem, fldAt];((repeat' (first|(refine ag_x ?_;simp [go_sem, fldAt])|intro _|refine And.intro ?_ ?_|(apply hKK;clear hKK KK)));all_goals first|refine Hold.mk ?_|omega|with_reducible assumption|(simp only [InR] at *;omega)|skip)) | refine awp_block ?_ | ((refine awp_if fun T F hT hF => ?_); simp [go_sem, fldAt, *]; (first | refine BR.intro (fun hb => hT ?_) (fun hb => hF ?_) | refine hT ?_ | refine hF ?_); all_goals ((try clear hT); (try clear hF); (try clear T F); (try simp at hb); (try (exfalso; omega)))) | refine awp_skip ?_ | (refine awp_exit ?_; simp only [go_sem]) | refine awp_seq ?_ | (refine awp_ret ?_; simp [go_sem, fldAt]))) <;> simp_all [fldAt]
end Go.Proofs.Ytmgbaegdkjcagaa

namespace Go.Proofs.Ytmgbaegdkjcagaa
open Go.Eng
set_option maxRecDepth 20000
attribute [local irreducible] AG CallA CallT AWp PCall ACall

def ltr : List Int := [68, 65, 66, 78, 88]
def fVal (i : Ins) (c : Int) : Int := if c = 68 then i.d else if c = 65 then i.a else if c = 66 then i.b else if c = 78 then i.n else i.x
theorem field_spec' (i : Ins) (c : Int) : PCall Try.prog 69 [.rd (cIns i), .v (.int .u8 c)] fun r => r = .rd (dI (fVal i c) :: (cIns i).drop (fldAt c + 1)) := by
  refine (field_spec i c).mono ?_
  rintro r rfl
  unfold fldAt fVal
  split
  · rfl
  · split
    · rfl
    · split
      · rfl
      · split <;> rfl
def fOk (regs nex : Int) (i : Ins) (c : Int) : Bool :=
  if !(flds i.op).any (isB c) then decide (fVal i c = 0) else if c = 78 then isW (fVal i c) else if c = 88 then decide (0 ≤ fVal i c) && decide (fVal i c < nex) else decide (0 ≤ fVal i c) && decide (fVal i c < regs)
def insOk (regs nex : Int) (i : Ins) : Bool := !(flds i.op).isEmpty && ltr.all (fOk regs nex i)
theorem flds_len (op : Int) : (flds op).length ≤ 4 := by
  unfold flds
  repeat' split
  all_goals simp
theorem take_all {α : Type} {p : α → Bool} {l : List α} {i : Nat} {x : α} (h : (l.take i).all p = true) (hx : l[i]? = some x) (hp : p x = true) : (l.take (i + 1)).all p = true := by
  rw [List.take_add_one, hx, List.all_append, h]
  simp [hp]
theorem all_at {α : Type} {p : α → Bool} {l : List α} {i : Nat} {x : α} (hx : l[i]? = some x) (hp : p x = false) : l.all p = false := by
  rw [List.all_eq_false]
  exact ⟨x, List.mem_of_getElem? hx, by simp [hp]⟩

theorem valid_spec (t : Tr) (i : Ins) : PCall Try.prog 44 [dTr t, .agg (cIns i)] fun r => r = dB (insOk t.regs t.exits.length i) := by 
  have hfl := flds_len i.op
  refine pcall_of Try.func44 rfl rfl Try.ntmps44 (rs := [.tmp 4]) (tys := [4]) rfl rfl (by simp) ?_
  (refine awp_sr fun KK hKK => ?_; simp [go_sem]; ((repeat' (first|(refine ag_x ?_;simp [go_sem])|intro _|refine And.intro ?_ ?_|(apply hKK;clear hKK KK)));all_goals first|refine Hold.mk ?_|omega|with_reducible assumption|(simp only [InR] at *;omega)|skip))
  refine awp_frzbox 2 rfl rfl ?_
  refine awp_frzbox 3 rfl rfl ?_
  simp only [go_sem]
  (refine awp_sr fun KK hKK => ?_; simp [go_sem]; ((repeat' (first|(refine ag_x ?_;simp [go_sem])|intro _|refine And.intro ?_ ?_|(apply hKK;clear hKK KK)));all_goals first|refine Hold.mk ?_|omega|with_reducible assumption|(simp only [InR] at *;omega)|skip))
  ((try refine CallT.toA ?_); refine callT_m (by first | exact .inl ⟨rfl, rfl⟩ | exact .inr rfl) (by simp [go_sem]) ?_; intro args ha; simp [go_sem] at ha; subst ha; refine ⟨_, (fields_spec _), ?_⟩; rintro _ rfl; simp [go_sem]; ((repeat' (first|(refine ag_x ?_;simp [go_sem])|intro _|refine And.intro ?_ ?_|(apply hKK;clear hKK KK)));all_goals first|refine Hold.mk ?_|omega|with_reducible assumption|(simp only [InR] at *;omega)|skip))
  refine awp_seq_k fun K1 hK1 => ?_
  (refine awp_sr fun KK hKK => ?_; simp [go_sem]; ((repeat' (first|(refine ag_x ?_;simp [go_sem])|intro _|refine And.intro ?_ ?_|(apply hKK;clear hKK KK)));all_goals first|refine Hold.mk ?_|omega|with_reducible assumption|(simp only [InR] at *;omega)|skip))
  (refine awp_if fun T F hT hF => ?_; simp [go_sem]; refine BR.intro (fun h2 => hT ?_) (fun h2 => hF ?_); all_goals clear hT hF T F; try simp at h2) 
  · (refine awp_sr fun KK hKK => ?_; simp [go_sem]; ((repeat' (first|(refine ag_x ?_;simp [go_sem])|intro _|refine And.intro ?_ ?_|(apply hKK;clear hKK KK)));all_goals first|refine Hold.mk ?_|omega|with_reducible assumption|(simp only [InR] at *;omega)|skip))
    (refine awp_ret ?_; simp [go_sem, insOk, h2])
  · refine awp_skip ?_
    refine hK1 _ ?_; clear hK1
    refine awp_seq_k fun K3 hK3 => ?_
    (refine awp_sr fun KK hKK => ?_; simp [go_sem]; ((repeat' (first|(refine ag_x ?_;simp [go_sem])|intro _|refine And.intro ?_ ?_|(apply hKK;clear hKK KK)));all_goals first|refine Hold.mk ?_|omega|with_reducible assumption|(simp only [InR] at *;omega)|skip))
    refine awp_block ?_
    refine awp_loop (σ := Nat) (fun k => ⟨[(2, .rd [dI t.regs, .sl 6 (t.code.map cIns), .sl 2 (t.exits.map cExi)]), (3, .rd (cIns i)), (5, dS (flds i.op)), (15, .sl 1 (ltr.map fun c => [.v (.int .u8 c)])), (16, dI 5), (17, dI k)], []⟩) (fun k => k ≤ 5 ∧ (ltr.take k).all (fOk t.regs t.exits.length i) = true) (fun k => 5 - k) 0 ?_ ?_ ?_
    · (refine cov_of ?_ ?_ <;> simp [go_sem, ltr])
    · simp
    rintro k ⟨hk, hall⟩
    (refine awp_sr fun KK hKK => ?_; simp [go_sem]; ((repeat' (first|(refine ag_x ?_;simp [go_sem])|intro _|refine And.intro ?_ ?_|(apply hKK;clear hKK KK)));all_goals first|refine Hold.mk ?_|omega|with_reducible assumption|(simp only [InR] at *;omega)|skip))
    refine awp_seq_k fun K4 hK4 => ?_
    (refine awp_if fun T F hT hF => ?_; simp [go_sem]; refine BR.intro (fun h5 => hT ?_) (fun h5 => hF ?_); all_goals clear hT hF T F; try simp at h5) 
    · refine awp_skip ?_
      refine hK4 _ ?_; clear hK4
      obtain ⟨c, hc⟩ : ∃ x, ltr[k]? = some x := ⟨_, List.getElem?_eq_getElem (by simp [ltr]; omega)⟩
      refine awp_seq_k fun K6 hK6 => ?_
      refine awp_block ?_
      (refine awp_sr fun KK hKK => ?_; simp [go_sem, hc]; ((repeat' (first|(refine ag_x ?_;simp [go_sem, hc])|intro _|refine And.intro ?_ ?_|(apply hKK;clear hKK KK)));all_goals first|refine Hold.mk ?_|omega|with_reducible assumption|(simp only [InR] at *;omega)|skip))
      (refine awp_sr fun KK hKK => ?_; simp [go_sem]; ((repeat' (first|(refine ag_x ?_;simp [go_sem])|intro _|refine And.intro ?_ ?_|(apply hKK;clear hKK KK)));all_goals first|refine Hold.mk ?_|omega|with_reducible assumption|(simp only [InR] at *;omega)|skip))
      ((try refine CallT.toA ?_); refine callT_m (by first | exact .inl ⟨rfl, rfl⟩ | exact .inr rfl) (by simp [go_sem]) ?_; intro args ha; simp [go_sem] at ha; subst ha; refine ⟨_, (field_spec' _ _), ?_⟩; rintro _ rfl; simp [go_sem]; ((repeat' (first|(refine ag_x ?_;simp [go_sem])|intro _|refine And.intro ?_ ?_|(apply hKK;clear hKK KK)));all_goals first|refine Hold.mk ?_|omega|with_reducible assumption|(simp only [InR] at *;omega)|skip))
      refine awp_block ?_
      (refine awp_sr fun KK hKK => ?_; simp [go_sem]; ((repeat' (first|(refine ag_x ?_;simp [go_sem])|intro _|refine And.intro ?_ ?_|(apply hKK;clear hKK KK)));all_goals first|refine Hold.mk ?_|omega|with_reducible assumption|(simp only [InR] at *;omega)|skip))
      ((try refine CallT.toA ?_); refine callT_m (by first | exact .inl ⟨rfl, rfl⟩ | exact .inr rfl) (by simp [go_sem]) ?_; intro args ha; simp [go_sem] at ha; subst ha; refine ⟨_, (containsB_spec _ _ (by omega)), ?_⟩; rintro _ rfl; simp [go_sem]; ((repeat' (first|(refine ag_x ?_;simp [go_sem])|intro _|refine And.intro ?_ ?_|(apply hKK;clear hKK KK)));all_goals first|refine Hold.mk ?_|omega|with_reducible assumption|(simp only [InR] at *;omega)|skip))
      have good : fOk t.regs t.exits.length i c = true → (ltr.take (k + 1)).all (fOk t.regs t.exits.length i) = true := take_all hall hc
      have bad : fOk t.regs t.exits.length i c = false → insOk t.regs t.exits.length i = false := fun h => by simp [insOk, all_at hc h]
      have next : ∀ S', Cov S' ⟨[(2, .rd [dI t.regs, .sl 6 (t.code.map cIns), .sl 2 (t.exits.map cExi)]), (3, .rd (cIns i)), (5, dS (flds i.op)), (15, .sl 1 (ltr.map fun c => [.v (.int .u8 c)])), (16, dI 5), (17, dI k)], []⟩ → fOk t.regs t.exits.length i c = true → K6 S' := fun S' hS hg => by
        refine hK6 _ ?_
        refine awp_cov hS ?_
        (refine awp_r fun KK hKK => ?_; simp [go_sem]; ((repeat' (first|(refine ag_x ?_;simp [go_sem])|intro _|refine And.intro ?_ ?_|(apply hKK;clear hKK KK)));all_goals first|refine Hold.mk ?_|omega|with_reducible assumption|(simp only [InR] at *;omega)|skip))
        refine ⟨k + 1, ?_, ⟨by omega, good hg⟩, by omega⟩
        (refine cov_of ?_ ?_ <;> simp [go_sem, ltr])
      clear hK6
      (refine awp_if fun T F hT hF => ?_; simp [go_sem]; refine BR.intro (fun h7 => hT ?_) (fun h7 => hF ?_); all_goals clear hT hF T F; try simp at h7) 
      · have h7 : (flds i.op).any (isB c) = false := by simpa using h7
        (refine awp_sr fun KK hKK => ?_; simp [go_sem]; ((repeat' (first|(refine ag_x ?_;simp [go_sem])|intro _|refine And.intro ?_ ?_|(apply hKK;clear hKK KK)));all_goals first|refine Hold.mk ?_|omega|with_reducible assumption|(simp only [InR] at *;omega)|skip))
        (refine awp_if fun T F hT hF => ?_; simp [go_sem]; refine BR.intro (fun h8 => hT ?_) (fun h8 => hF ?_); all_goals clear hT hF T F; try simp at h8) 
        · (refine awp_sr fun KK hKK => ?_; simp [go_sem]; ((repeat' (first|(refine ag_x ?_;simp [go_sem])|intro _|refine And.intro ?_ ?_|(apply hKK;clear hKK KK)));all_goals first|refine Hold.mk ?_|omega|with_reducible assumption|(simp only [InR] at *;omega)|skip))
          (refine awp_ret ?_; simp [go_sem])
          exact bad (by simp [fOk, h7, h8])
        · refine awp_skip ?_
          refine next _ ?_ (by simp [fOk, h7, h8])
          (refine cov_of ?_ ?_ <;> simp [go_sem])
      · have h7 : (flds i.op).any (isB c) = true := by simpa using h7
        have e : fOk t.regs t.exits.length i c = (if c = 78 then isW (fVal i c) else if c = 88 then decide (0 ≤ fVal i c) && decide (fVal i c < t.exits.length) else decide (0 ≤ fVal i c) && decide (fVal i c < t.regs)) := by
          simp only [fOk, h7, Bool.not_true, Bool.false_eq_true, if_false]
        (refine awp_sr fun KK hKK => ?_; simp [go_sem]; ((repeat' (first|(refine ag_x ?_;simp [go_sem])|intro _|refine And.intro ?_ ?_|(apply hKK;clear hKK KK)));all_goals first|refine Hold.mk ?_|omega|with_reducible assumption|(simp only [InR] at *;omega)|skip))
        (refine awp_if fun T F hT hF => ?_; simp [go_sem]; refine BR.intro (fun h9 => hT ?_) (fun h9 => hF ?_); all_goals clear hT hF T F; try simp at h9) 
        · (refine awp_sr fun KK hKK => ?_; simp [go_sem]; ((repeat' (first|(refine ag_x ?_;simp [go_sem])|intro _|refine And.intro ?_ ?_|(apply hKK;clear hKK KK)));all_goals first|refine Hold.mk ?_|omega|with_reducible assumption|(simp only [InR] at *;omega)|skip))
          ((try refine CallT.toA ?_); refine callT_m (by first | exact .inl ⟨rfl, rfl⟩ | exact .inr rfl) (by simp [go_sem]) ?_; intro args ha; simp [go_sem] at ha; subst ha; refine ⟨_, (word_spec _), ?_⟩; rintro _ rfl; simp [go_sem]; ((repeat' (first|(refine ag_x ?_;simp [go_sem])|intro _|refine And.intro ?_ ?_|(apply hKK;clear hKK KK)));all_goals first|refine Hold.mk ?_|omega|with_reducible assumption|(simp only [InR] at *;omega)|skip))
          (refine awp_if fun T F hT hF => ?_; simp [go_sem]; refine BR.intro (fun h10 => hT ?_) (fun h10 => hF ?_); all_goals clear hT hF T F; try simp at h10) 
          · (refine awp_sr fun KK hKK => ?_; simp [go_sem]; ((repeat' (first|(refine ag_x ?_;simp [go_sem])|intro _|refine And.intro ?_ ?_|(apply hKK;clear hKK KK)));all_goals first|refine Hold.mk ?_|omega|with_reducible assumption|(simp only [InR] at *;omega)|skip))
            (refine awp_ret ?_; simp [go_sem])
            exact bad (by rw [e, if_pos h9]; exact h10)
          · refine awp_skip ?_
            refine next _ ?_ (by rw [e, if_pos h9]; exact h10)
            (refine cov_of ?_ ?_ <;> simp [go_sem, h9])
        · (refine awp_sr fun KK hKK => ?_; simp [go_sem]; ((repeat' (first|(refine ag_x ?_;simp [go_sem])|intro _|refine And.intro ?_ ?_|(apply hKK;clear hKK KK)));all_goals first|refine Hold.mk ?_|omega|with_reducible assumption|(simp only [InR] at *;omega)|skip))
          (refine awp_if fun T F hT hF => ?_; simp [go_sem]; refine BR.intro (fun h11 => hT ?_) (fun h11 => hF ?_); all_goals clear hT hF T F; try simp at h11) 
          · (refine awp_sr fun KK hKK => ?_; simp [go_sem]; ((repeat' (first|(refine ag_x ?_;simp [go_sem])|intro _|refine And.intro ?_ ?_|(apply hKK;clear hKK KK)));all_goals first|refine Hold.mk ?_|omega|with_reducible assumption|(simp only [InR] at *;omega)|skip))
            (refine awp_if fun T F hT hF => ?_; simp [go_sem]; refine BR.intro (fun h12 => hT ?_) (fun h12 => hF ?_); all_goals clear hT hF T F; try simp at h12) 
            · (refine awp_sr fun KK hKK => ?_; simp [go_sem]; ((repeat' (first|(refine ag_x ?_;simp [go_sem])|intro _|refine And.intro ?_ ?_|(apply hKK;clear hKK KK)));all_goals first|refine Hold.mk ?_|omega|with_reducible assumption|(simp only [InR] at *;omega)|skip))
              (refine awp_ret ?_; simp [go_sem])
              exact bad (by rw [e, if_neg h9, if_pos h11]; simp; omega)
            · refine awp_skip ?_
              refine next _ ?_ (by rw [e, if_neg h9, if_pos h11]; simp; omega)
              (refine cov_of ?_ ?_ <;> simp [go_sem, h11])
          · (refine awp_sr fun KK hKK => ?_; simp [go_sem]; ((repeat' (first|(refine ag_x ?_;simp [go_sem])|intro _|refine And.intro ?_ ?_|(apply hKK;clear hKK KK)));all_goals first|refine Hold.mk ?_|omega|with_reducible assumption|(simp only [InR] at *;omega)|skip))
            (refine awp_if fun T F hT hF => ?_; simp [go_sem]; refine BR.intro (fun h13 => hT ?_) (fun h13 => hF ?_); all_goals clear hT hF T F; try simp at h13) 
            · (refine awp_sr fun KK hKK => ?_; simp [go_sem]; ((repeat' (first|(refine ag_x ?_;simp [go_sem])|intro _|refine And.intro ?_ ?_|(apply hKK;clear hKK KK)));all_goals first|refine Hold.mk ?_|omega|with_reducible assumption|(simp only [InR] at *;omega)|skip))
              (refine awp_ret ?_; simp [go_sem])
              exact bad (by rw [e, if_neg h9, if_neg h11]; simp; omega)
            · refine awp_skip ?_
              refine next _ ?_ (by rw [e, if_neg h9, if_neg h11]; simp; omega)
              (refine cov_of ?_ ?_ <;> simp [go_sem])
    · refine awp_exit ?_
      simp only [go_sem]
      refine hK3 _ ?_; clear hK3
      (refine awp_sr fun KK hKK => ?_; simp [go_sem]; ((repeat' (first|(refine ag_x ?_;simp [go_sem])|intro _|refine And.intro ?_ ?_|(apply hKK;clear hKK KK)));all_goals first|refine Hold.mk ?_|omega|with_reducible assumption|(simp only [InR] at *;omega)|skip))
      (refine awp_ret ?_; simp [go_sem])
      have : k = 5 := by omega
      subst this
      have e : ltr.take 5 = ltr := rfl
      rw [e] at hall
      simp [insOk, hall, h2]
end Go.Proofs.Ytmgbaegdkjcagaa

namespace Go.Proofs.Ytmgbaegdkjcagaa
open Go.Eng
set_option maxRecDepth 20000
attribute [local irreducible] AG CallA CallT AWp PCall ACall AgC

theorem indexF_spec (l : List Int) (df : D) (f : Nat) (caps : List D) (p : Int → Bool) (hf : FunD df f caps) (hp : ∀ x ∈ l, PCall Try.prog f (dI x :: caps) fun r => r = dB (p x)) (hl : l.length ≤ 2 ^ 40) : PCall Try.prog 64 [dIs l, df] fun r => r = dI (fidx p l) := by 
  have hf' := hf
  rcases hf with ⟨rfl, rfl⟩ | rfl
  · refine pcall_of Try.func64 rfl rfl Try.ntmps64 (rs := [.tmp 4]) (tys := [3]) rfl rfl (by simp) ?_
    (refine awp_sr fun KK hKK => ?_; simp [go_sem]; ((repeat' (first|(refine ag_x ?_;simp [go_sem])|intro _|refine And.intro ?_ ?_|(apply hKK;clear hKK KK)));all_goals first|refine Hold.mk ?_|omega|with_reducible assumption|(simp only [InR] at *;omega)|skip))
    refine awp_seq_k fun K1 hK1 => ?_
    (refine awp_sr fun KK hKK => ?_; simp [go_sem]; ((repeat' (first|(refine ag_x ?_;simp [go_sem])|intro _|refine And.intro ?_ ?_|(apply hKK;clear hKK KK)));all_goals first|refine Hold.mk ?_|omega|with_reducible assumption|(simp only [InR] at *;omega)|skip))
    refine awp_block ?_
    refine awp_loop (σ := Nat) (fun i => ⟨[(0, dIs l), (1, .v (.func (.func f) #[] #[])), (7, dI l.length), (8, dI i)], []⟩) (fun i => i ≤ l.length ∧ (l.take i).any p = false) (fun i => l.length - i) 0 (by (refine cov_of ?_ ?_ <;> simp [go_sem])) (by simp) ?_
    rintro i ⟨hi, hany⟩
    (refine awp_sr fun KK hKK => ?_; simp [go_sem]; ((repeat' (first|(refine ag_x ?_;simp [go_sem])|intro _|refine And.intro ?_ ?_|(apply hKK;clear hKK KK)));all_goals first|refine Hold.mk ?_|omega|with_reducible assumption|(simp only [InR] at *;omega)|skip))
    refine awp_seq_k fun K2 hK2 => ?_
    (refine awp_if fun T F hT hF => ?_; simp [go_sem]; refine BR.intro (fun h3 => hT ?_) (fun h3 => hF ?_); all_goals clear hT hF T F; try simp at h3) 
    · refine awp_skip ?_
      refine hK2 _ ?_; clear hK2
      obtain ⟨x, hx⟩ : ∃ x, l[i]? = some x := ⟨_, List.getElem?_eq_getElem h3⟩
      refine awp_seq_k fun K4 hK4 => ?_
      refine awp_block ?_
      (refine awp_sr fun KK hKK => ?_; simp [go_sem]; ((repeat' (first|(refine ag_x ?_;simp [go_sem])|intro _|refine And.intro ?_ ?_|(apply hKK;clear hKK KK)));all_goals first|refine Hold.mk ?_|omega|with_reducible assumption|(simp only [InR] at *;omega)|skip))
      (refine awp_sr fun KK hKK => ?_; simp [go_sem, hx]; ((repeat' (first|(refine ag_x ?_;simp [go_sem, hx])|intro _|refine And.intro ?_ ?_|(apply hKK;clear hKK KK)));all_goals first|refine Hold.mk ?_|omega|with_reducible assumption|(simp only [InR] at *;omega)|skip))
      ((try refine CallT.toA ?_); refine callT_m (by first | exact .inl ⟨rfl, rfl⟩ | exact .inr rfl) (by simp [go_sem]) ?_; intro args ha; simp [go_sem] at ha; subst ha; refine ⟨_, (hp x (List.mem_of_getElem? hx)), ?_⟩; rintro _ rfl; simp [go_sem]; ((repeat' (first|(refine ag_x ?_;simp [go_sem])|intro _|refine And.intro ?_ ?_|(apply hKK;clear hKK KK)));all_goals first|refine Hold.mk ?_|omega|with_reducible assumption|(simp only [InR] at *;omega)|skip))
      (refine awp_if fun T F hT hF => ?_; simp [go_sem]; refine BR.intro (fun h5 => hT ?_) (fun h5 => hF ?_); all_goals clear hT hF T F; try simp at h5) 
      · (refine awp_sr fun KK hKK => ?_; simp [go_sem]; ((repeat' (first|(refine ag_x ?_;simp [go_sem])|intro _|refine And.intro ?_ ?_|(apply hKK;clear hKK KK)));all_goals first|refine Hold.mk ?_|omega|with_reducible assumption|(simp only [InR] at *;omega)|skip))
        (refine awp_ret ?_; simp [go_sem])
        rw [fidx_at hany hx h5]
      · refine awp_skip ?_
        refine hK4 _ ?_; clear hK4
        (refine awp_r fun KK hKK => ?_; simp [go_sem]; ((repeat' (first|(refine ag_x ?_;simp [go_sem])|intro _|refine And.intro ?_ ?_|(apply hKK;clear hKK KK)));all_goals first|refine Hold.mk ?_|omega|with_reducible assumption|(simp only [InR] at *;omega)|skip))
        refine ⟨i + 1, ?_, ⟨h3, take_any hany hx h5⟩, by omega⟩
        (refine cov_of ?_ ?_ <;> simp [go_sem])
    · refine awp_exit ?_
      simp only [go_sem]
      refine hK1 _ ?_; clear hK1
      (refine awp_sr fun KK hKK => ?_; simp [go_sem]; ((repeat' (first|(refine ag_x ?_;simp [go_sem])|intro _|refine And.intro ?_ ?_|(apply hKK;clear hKK KK)));all_goals first|refine Hold.mk ?_|omega|with_reducible assumption|(simp only [InR] at *;omega)|skip))
      (refine awp_ret ?_; simp [go_sem])
      have : i = l.length := by omega
      subst this
      rw [List.take_length] at hany
      rw [fidx_none hany]
  · refine pcall_of Try.func64 rfl rfl Try.ntmps64 (rs := [.tmp 4]) (tys := [3]) rfl rfl (by simp) ?_
    (refine awp_sr fun KK hKK => ?_; simp [go_sem]; ((repeat' (first|(refine ag_x ?_;simp [go_sem])|intro _|refine And.intro ?_ ?_|(apply hKK;clear hKK KK)));all_goals first|refine Hold.mk ?_|omega|with_reducible assumption|(simp only [InR] at *;omega)|skip))
    refine awp_seq_k fun K1 hK1 => ?_
    (refine awp_sr fun KK hKK => ?_; simp [go_sem]; ((repeat' (first|(refine ag_x ?_;simp [go_sem])|intro _|refine And.intro ?_ ?_|(apply hKK;clear hKK KK)));all_goals first|refine Hold.mk ?_|omega|with_reducible assumption|(simp only [InR] at *;omega)|skip))
    refine awp_block ?_
    refine awp_loop (σ := Nat) (fun i => ⟨[(0, dIs l), (1, .fn f caps), (7, dI l.length), (8, dI i)], []⟩) (fun i => i ≤ l.length ∧ (l.take i).any p = false) (fun i => l.length - i) 0 (by (refine cov_of ?_ ?_ <;> simp [go_sem])) (by simp) ?_
    rintro i ⟨hi, hany⟩
    (refine awp_sr fun KK hKK => ?_; simp [go_sem]; ((repeat' (first|(refine ag_x ?_;simp [go_sem])|intro _|refine And.intro ?_ ?_|(apply hKK;clear hKK KK)));all_goals first|refine Hold.mk ?_|omega|with_reducible assumption|(simp only [InR] at *;omega)|skip))
    refine awp_seq_k fun K2 hK2 => ?_
    (refine awp_if fun T F hT hF => ?_; simp [go_sem]; refine BR.intro (fun h3 => hT ?_) (fun h3 => hF ?_); all_goals clear hT hF T F; try simp at h3) 
    · refine awp_skip ?_
      refine hK2 _ ?_; clear hK2
      obtain ⟨x, hx⟩ : ∃ x, l[i]? = some x := ⟨_, List.getElem?_eq_getElem h3⟩
      refine awp_seq_k fun K4 hK4 => ?_
      refine awp_block ?_
      (refine awp_sr fun KK hKK => ?_; simp [go_sem]; ((repeat' (first|(refine ag_x ?_;simp [go_sem])|intro _|refine And.intro ?_ ?_|(apply hKK;clear hKK KK)));all_goals first|refine Hold.mk ?_|omega|with_reducible assumption|(simp only [InR] at *;omega)|skip))
      (refine awp_sr fun KK hKK => ?_; simp [go_sem, hx]; ((repeat' (first|(refine ag_x ?_;simp [go_sem, hx])|intro _|refine And.intro ?_ ?_|(apply hKK;clear hKK KK)));all_goals first|refine Hold.mk ?_|omega|with_reducible assumption|(simp only [InR] at *;omega)|skip))
      ((try refine CallT.toA ?_); refine callT_m (by first | exact .inl ⟨rfl, rfl⟩ | exact .inr rfl) (by simp [go_sem]) ?_; intro args ha; simp [go_sem] at ha; subst ha; refine ⟨_, (hp x (List.mem_of_getElem? hx)), ?_⟩; rintro _ rfl; simp [go_sem]; ((repeat' (first|(refine ag_x ?_;simp [go_sem])|intro _|refine And.intro ?_ ?_|(apply hKK;clear hKK KK)));all_goals first|refine Hold.mk ?_|omega|with_reducible assumption|(simp only [InR] at *;omega)|skip))
      (refine awp_if fun T F hT hF => ?_; simp [go_sem]; refine BR.intro (fun h5 => hT ?_) (fun h5 => hF ?_); all_goals clear hT hF T F; try simp at h5) 
      · (refine awp_sr fun KK hKK => ?_; simp [go_sem]; ((repeat' (first|(refine ag_x ?_;simp [go_sem])|intro _|refine And.intro ?_ ?_|(apply hKK;clear hKK KK)));all_goals first|refine Hold.mk ?_|omega|with_reducible assumption|(simp only [InR] at *;omega)|skip))
        (refine awp_ret ?_; simp [go_sem])
        rw [fidx_at hany hx h5]
      · refine awp_skip ?_
        refine hK4 _ ?_; clear hK4
        (refine awp_r fun KK hKK => ?_; simp [go_sem]; ((repeat' (first|(refine ag_x ?_;simp [go_sem])|intro _|refine And.intro ?_ ?_|(apply hKK;clear hKK KK)));all_goals first|refine Hold.mk ?_|omega|with_reducible assumption|(simp only [InR] at *;omega)|skip))
        refine ⟨i + 1, ?_, ⟨h3, take_any hany hx h5⟩, by omega⟩
        (refine cov_of ?_ ?_ <;> simp [go_sem])
    · refine awp_exit ?_
      simp only [go_sem]
      refine hK1 _ ?_; clear hK1
      (refine awp_sr fun KK hKK => ?_; simp [go_sem]; ((repeat' (first|(refine ag_x ?_;simp [go_sem])|intro _|refine And.intro ?_ ?_|(apply hKK;clear hKK KK)));all_goals first|refine Hold.mk ?_|omega|with_reducible assumption|(simp only [InR] at *;omega)|skip))
      (refine awp_ret ?_; simp [go_sem])
      have : i = l.length := by omega
      subst this
      rw [List.take_length] at hany
      rw [fidx_none hany]
theorem containsF_spec (l : List Int) (df : D) (f : Nat) (caps : List D) (p : Int → Bool) (hf : FunD df f caps) (hp : ∀ x ∈ l, PCall Try.prog f (dI x :: caps) fun r => r = dB (p x)) (hl : l.length ≤ 2 ^ 40) : PCall Try.prog 37 [dIs l, df] fun r => r = dB (l.any p) := by
  have hf' := hf
  rcases hf with ⟨rfl, rfl⟩ | rfl
  all_goals
    refine pcall_of Try.func37 rfl rfl Try.ntmps37 (rs := [.tmp 4]) (tys := [4]) rfl rfl (by simp) ?_
    (refine awp_sr fun KK hKK => ?_; simp [go_sem]; ((repeat' (first|(refine ag_x ?_;simp [go_sem])|intro _|refine And.intro ?_ ?_|(apply hKK;clear hKK KK)));all_goals first|refine Hold.mk ?_|omega|with_reducible assumption|(simp only [InR] at *;omega)|skip))
    (refine awp_sr fun KK hKK => ?_; simp [go_sem]; ((repeat' (first|(refine ag_x ?_;simp [go_sem])|intro _|refine And.intro ?_ ?_|(apply hKK;clear hKK KK)));all_goals first|refine Hold.mk ?_|omega|with_reducible assumption|(simp only [InR] at *;omega)|skip))
    ((try refine CallT.toA ?_); refine callT_m (by first | exact .inl ⟨rfl, rfl⟩ | exact .inr rfl) (by simp [go_sem]) ?_; intro args ha; simp [go_sem] at ha; subst ha; refine ⟨_, (indexF_spec _ _ _ _ _ hf' hp hl), ?_⟩; rintro _ rfl; simp [go_sem]; ((repeat' (first|(refine ag_x ?_;simp [go_sem])|intro _|refine And.intro ?_ ?_|(apply hKK;clear hKK KK)));all_goals first|refine Hold.mk ?_|omega|with_reducible assumption|(simp only [InR] at *;omega)|skip))
    (refine awp_ret ?_; simp [go_sem, fidx_any])
theorem run1_spec (n : Int) : PCall Try.prog 38 [dI n] fun r => r = dB (!isW n) := by
  refine pcall_of Try.func38 rfl rfl Try.ntmps38 (rs := [.tmp 2]) (tys := [4]) rfl rfl (by simp) ?_
  (repeat' (first | ((first|refine awp_sr fun KK hKK => ?_|refine awp_r fun KK hKK => ?_|((try refine CallT.toA ?_); refine callT_m (by first | exact .inl ⟨rfl, rfl⟩ | exact .inr rfl) (by simp [go_sem]) ?_; intro args ha; simp [go_sem] at ha; subst ha; refine ⟨_, (word_spec _), ?_⟩; rintro _ rfl)|((try refine CallT.toA ?_); refine callT_f (by first | exact .inl ⟨rfl, rfl⟩ | exact .inr rfl) ?_; intro args ha; simp [go_sem] at ha; subst ha; refine ⟨_, (word_spec _), ?_⟩; rintro _ rfl; refine ⟨rfl, ?_⟩));simp [go_sem];((repeat' (first|(refine ag_x ?_;simp [go_sem])|intro _|refine And.intro ?_ ?_|(apply hKK;clear hKK KK)));all_goals first|refine Hold.mk ?_|omega|with_reducible assumption|(simp only [InR] at *;omega)|skip)) | refine awp_block ?_ | ((refine awp_if fun T F hT hF => ?_); simp [go_sem, *]; (first | refine BR.intro (fun hb => hT ?_) (fun hb => hF ?_) | refine hT ?_ | refine hF ?_); all_goals ((try clear hT); (try clear hF); (try clear T F); (try simp at hb); (try (exfalso; omega)))) | refine awp_skip ?_ | (refine awp_exit ?_; simp only [go_sem]) | refine awp_seq ?_ | (refine awp_ret ?_; simp [go_sem])))
theorem check1_spec (r : Int) (regs : Int) (x y : D) : PCall Try.prog 45 [dI r, .rd [dI regs, x, y]] fun d => d = dB (decide (r < 0) || decide (regs ≤ r)) := by
  refine pcall_of Try.func45 rfl rfl Try.ntmps45 (rs := [.tmp 3]) (tys := [4]) rfl rfl (by simp) ?_
  (repeat' (first | ((first|refine awp_sr fun KK hKK => ?_|refine awp_r fun KK hKK => ?_);simp [go_sem];((repeat' (first|(refine ag_x ?_;simp [go_sem])|intro _|refine And.intro ?_ ?_|(apply hKK;clear hKK KK)));all_goals first|refine Hold.mk ?_|omega|with_reducible assumption|(simp only [InR] at *;omega)|skip)) | refine awp_block ?_ | ((refine awp_if fun T F hT hF => ?_); simp [go_sem, *]; (first | refine BR.intro (fun hb => hT ?_) (fun hb => hF ?_) | refine hT ?_ | refine hF ?_); all_goals ((try clear hT); (try clear hF); (try clear T F); (try simp at hb); (try (exfalso; omega)))) | refine awp_skip ?_ | (refine awp_exit ?_; simp only [go_sem]) | refine awp_seq ?_ | (refine awp_ret ?_; simp [go_sem])))
def slotBad (regs r : Int) : Bool := decide (r < 0) || decide (regs ≤ r)
def exOk (regs : Int) (x : Exi) : Bool := decide (x.slots.length ≤ 20) && !x.slots.any (slotBad regs)
def trOk (t : Tr) : Bool := decide (1 ≤ t.regs) && decide (t.regs ≤ 20) && decide (t.code.length ≤ 60) && decide (t.exits.length ≤ 10) && t.code.all (insOk t.regs t.exits.length) && t.exits.all (exOk t.regs)
end Go.Proofs.Ytmgbaegdkjcagaa

namespace Go.Proofs.Ytmgbaegdkjcagaa
open Go.Eng
set_option maxRecDepth 20000
attribute [local irreducible] AG CallA CallT AWp PCall ACall AgC

theorem check_spec (t : Tr) : PCall Try.prog 20 [dTr t] fun r => r = dI (if trOk t then 0 else 1) := by 
  refine pcall_of Try.func20 rfl rfl Try.ntmps20 (rs := [.tmp 2]) (tys := [36]) rfl rfl (by simp) ?_
  (refine awp_sr fun KK hKK => ?_; simp [go_sem]; ((repeat' (first|(refine ag_x ?_;simp [go_sem])|intro _|refine And.intro ?_ ?_|(apply hKK;clear hKK KK)));all_goals first|refine Hold.mk ?_|omega|with_reducible assumption|(simp only [InR] at *;omega)|skip))
  refine awp_frzbox 1 rfl rfl ?_
  simp only [go_sem]
  refine awp_seq_k fun K1 hK1 => ?_
  (refine awp_sr fun KK hKK => ?_; simp [go_sem]; ((repeat' (first|(refine ag_x ?_;simp [go_sem])|intro _|refine And.intro ?_ ?_|(apply hKK;clear hKK KK)));all_goals first|refine Hold.mk ?_|omega|with_reducible assumption|(simp only [InR] at *;omega)|skip))
  (refine awp_if fun T F hT hF => ?_; simp [go_sem]; refine BR.intro (fun h2 => hT ?_) (fun h2 => hF ?_); all_goals clear hT hF T F; try simp at h2) 
  · (refine awp_sr fun KK hKK => ?_; simp [go_sem]; ((repeat' (first|(refine ag_x ?_;simp [go_sem])|intro _|refine And.intro ?_ ?_|(apply hKK;clear hKK KK)));all_goals first|refine Hold.mk ?_|omega|with_reducible assumption|(simp only [InR] at *;omega)|skip))
    (refine awp_ret ?_; simp [go_sem])
    simp [trOk]
    omega
  · refine awp_skip ?_
    refine hK1 _ ?_; clear hK1
    have hregs : 1 ≤ t.regs ∧ t.regs ≤ 20 ∧ t.code.length ≤ 60 ∧ t.exits.length ≤ 10 := by omega
    refine awp_seq_k fun K3 hK3 => ?_
    (refine awp_sr fun KK hKK => ?_; simp [go_sem]; ((repeat' (first|(refine ag_x ?_;simp [go_sem])|intro _|refine And.intro ?_ ?_|(apply hKK;clear hKK KK)));all_goals first|refine Hold.mk ?_|omega|with_reducible assumption|(simp only [InR] at *;omega)|skip))
    refine awp_block ?_
    refine awp_loop (σ := Nat) (fun k => ⟨[(1, .rd [dI t.regs, .sl 6 (t.code.map cIns), .sl 2 (t.exits.map cExi)]), (28, .sl 6 (t.code.map cIns)), (29, dI t.code.length), (30, dI k)], []⟩) (fun k => k ≤ t.code.length ∧ (t.code.take k).all (insOk t.regs t.exits.length) = true) (fun k => t.code.length - k) 0 ?_ ?_ ?_
    · (refine cov_of ?_ ?_ <;> simp [go_sem])
    · simp
    rintro k ⟨hk, hall⟩
    (refine awp_sr fun KK hKK => ?_; simp [go_sem]; ((repeat' (first|(refine ag_x ?_;simp [go_sem])|intro _|refine And.intro ?_ ?_|(apply hKK;clear hKK KK)));all_goals first|refine Hold.mk ?_|omega|with_reducible assumption|(simp only [InR] at *;omega)|skip))
    refine awp_seq_k fun K4 hK4 => ?_
    (refine awp_if fun T F hT hF => ?_; simp [go_sem]; refine BR.intro (fun h5 => hT ?_) (fun h5 => hF ?_); all_goals clear hT hF T F; try simp at h5) 
    · refine awp_skip ?_
      refine hK4 _ ?_; clear hK4
      obtain ⟨x, hx⟩ : ∃ x, t.code[k]? = some x := ⟨_, List.getElem?_eq_getElem h5⟩
      refine awp_seq_k fun K6 hK6 => ?_
      refine awp_block ?_
      (refine awp_sr fun KK hKK => ?_; simp [go_sem, hx]; ((repeat' (first|(refine ag_x ?_;simp [go_sem, hx])|intro _|refine And.intro ?_ ?_|(apply hKK;clear hKK KK)));all_goals first|refine Hold.mk ?_|omega|with_reducible assumption|(simp only [InR] at *;omega)|skip))
      (refine awp_sr fun KK hKK => ?_; simp [go_sem]; ((repeat' (first|(refine ag_x ?_;simp [go_sem])|intro _|refine And.intro ?_ ?_|(apply hKK;clear hKK KK)));all_goals first|refine Hold.mk ?_|omega|with_reducible assumption|(simp only [InR] at *;omega)|skip))
      ((try refine CallT.toA ?_); refine callT_m (by first | exact .inl ⟨rfl, rfl⟩ | exact .inr rfl) (by simp [go_sem]) ?_; intro args ha; simp [go_sem] at ha; subst ha; refine ⟨_, (valid_spec _ _), ?_⟩; rintro _ rfl; simp [go_sem]; ((repeat' (first|(refine ag_x ?_;simp [go_sem])|intro _|refine And.intro ?_ ?_|(apply hKK;clear hKK KK)));all_goals first|refine Hold.mk ?_|omega|with_reducible assumption|(simp only [InR] at *;omega)|skip))
      (refine awp_if fun T F hT hF => ?_; simp [go_sem]; refine BR.intro (fun h7 => hT ?_) (fun h7 => hF ?_); all_goals clear hT hF T F; try simp at h7) 
      · (refine awp_sr fun KK hKK => ?_; simp [go_sem]; ((repeat' (first|(refine ag_x ?_;simp [go_sem])|intro _|refine And.intro ?_ ?_|(apply hKK;clear hKK KK)));all_goals first|refine Hold.mk ?_|omega|with_reducible assumption|(simp only [InR] at *;omega)|skip))
        (refine awp_ret ?_; simp [go_sem])
        have := all_at hx h7
        simp [trOk, this]
      · refine awp_skip ?_
        refine hK6 _ ?_; clear hK6
        (refine awp_r fun KK hKK => ?_; simp [go_sem]; ((repeat' (first|(refine ag_x ?_;simp [go_sem])|intro _|refine And.intro ?_ ?_|(apply hKK;clear hKK KK)));all_goals first|refine Hold.mk ?_|omega|with_reducible assumption|(simp only [InR] at *;omega)|skip))
        refine ⟨k + 1, ?_, ⟨h5, take_all hall hx h7⟩, by omega⟩
        (refine cov_of ?_ ?_ <;> simp [go_sem])
    · refine awp_exit ?_
      simp only [go_sem]
      refine hK3 _ ?_; clear hK3
      have : k = t.code.length := by omega
      subst this
      rw [List.take_length] at hall
      refine awp_seq_k fun K8 hK8 => ?_
      (refine awp_sr fun KK hKK => ?_; simp [go_sem]; ((repeat' (first|(refine ag_x ?_;simp [go_sem])|intro _|refine And.intro ?_ ?_|(apply hKK;clear hKK KK)));all_goals first|refine Hold.mk ?_|omega|with_reducible assumption|(simp only [InR] at *;omega)|skip))
      refine awp_block ?_
      refine awp_loop (σ := Nat) (fun k => ⟨[(1, .rd [dI t.regs, .sl 6 (t.code.map cIns), .sl 2 (t.exits.map cExi)]), (40, .sl 2 (t.exits.map cExi)), (41, dI t.exits.length), (42, dI k)], []⟩) (fun k => k ≤ t.exits.length ∧ (t.exits.take k).all (exOk t.regs) = true) (fun k => t.exits.length - k) 0 ?_ ?_ ?_
      · (refine cov_of ?_ ?_ <;> simp [go_sem])
      · simp
      rintro k ⟨hk', hall'⟩
      (refine awp_sr fun KK hKK => ?_; simp [go_sem]; ((repeat' (first|(refine ag_x ?_;simp [go_sem])|intro _|refine And.intro ?_ ?_|(apply hKK;clear hKK KK)));all_goals first|refine Hold.mk ?_|omega|with_reducible assumption|(simp only [InR] at *;omega)|skip))
      refine awp_seq_k fun K9 hK9 => ?_
      (refine awp_if fun T F hT hF => ?_; simp [go_sem]; refine BR.intro (fun h10 => hT ?_) (fun h10 => hF ?_); all_goals clear hT hF T F; try simp at h10) 
      · refine awp_skip ?_
        refine hK9 _ ?_; clear hK9
        obtain ⟨x, hx⟩ : ∃ x, t.exits[k]? = some x := ⟨_, List.getElem?_eq_getElem h10⟩
        refine awp_seq_k fun K11 hK11 => ?_
        refine awp_block ?_
        (refine awp_sr fun KK hKK => ?_; simp [go_sem, hx]; ((repeat' (first|(refine ag_x ?_;simp [go_sem, hx])|intro _|refine And.intro ?_ ?_|(apply hKK;clear hKK KK)));all_goals first|refine Hold.mk ?_|omega|with_reducible assumption|(simp only [InR] at *;omega)|skip))
        (refine awp_sr fun KK hKK => ?_; simp [go_sem]; ((repeat' (first|(refine ag_x ?_;simp [go_sem])|intro _|refine And.intro ?_ ?_|(apply hKK;clear hKK KK)));all_goals first|refine Hold.mk ?_|omega|with_reducible assumption|(simp only [InR] at *;omega)|skip))
        (refine agc_f (dB (x.slots.any (slotBad t.regs))) (by first | exact .inl ⟨rfl, rfl⟩ | exact .inr rfl) ?_ rfl ?_; (intro hc args ha; simp [go_sem] at ha; subst ha; exact (containsF_spec _ _ 45 _ (slotBad t.regs) (.inr rfl) (fun r _ => check1_spec r _ _ _) (by simp at hc; omega))); simp [go_sem]; ((repeat' (first|(refine ag_x ?_;simp [go_sem])|intro _|refine And.intro ?_ ?_|(apply hKK;clear hKK KK)));all_goals first|refine Hold.mk ?_|omega|with_reducible assumption|(simp only [InR] at *;omega)|skip))
        (refine awp_if fun T F hT hF => ?_; simp [go_sem]; refine BR.intro (fun h12 => hT ?_) (fun h12 => hF ?_); all_goals clear hT hF T F; try simp at h12) 
        · (refine awp_sr fun KK hKK => ?_; simp [go_sem]; ((repeat' (first|(refine ag_x ?_;simp [go_sem])|intro _|refine And.intro ?_ ?_|(apply hKK;clear hKK KK)));all_goals first|refine Hold.mk ?_|omega|with_reducible assumption|(simp only [InR] at *;omega)|skip))
          (refine awp_ret ?_; simp [go_sem])
          have := all_at hx (p := exOk t.regs) (by simp [exOk]; intro hle; rcases h12 with h | h; exact absurd h (by omega); simpa using h)
          simp [trOk, this]
        · refine awp_skip ?_
          refine hK11 _ ?_; clear hK11
          (refine awp_r fun KK hKK => ?_; simp [go_sem]; ((repeat' (first|(refine ag_x ?_;simp [go_sem])|intro _|refine And.intro ?_ ?_|(apply hKK;clear hKK KK)));all_goals first|refine Hold.mk ?_|omega|with_reducible assumption|(simp only [InR] at *;omega)|skip))
          refine ⟨k + 1, ?_, ⟨h10, take_all hall' hx (by simp [exOk]; exact ⟨by omega, by simpa using h12.2⟩)⟩, by omega⟩
          (refine cov_of ?_ ?_ <;> simp [go_sem])
      · refine awp_exit ?_
        simp only [go_sem]
        refine hK8 _ ?_; clear hK8
        have : k = t.exits.length := by omega
        subst this
        rw [List.take_length] at hall'
        (refine awp_sr fun KK hKK => ?_; simp [go_sem]; ((repeat' (first|(refine ag_x ?_;simp [go_sem])|intro _|refine And.intro ?_ ?_|(apply hKK;clear hKK KK)));all_goals first|refine Hold.mk ?_|omega|with_reducible assumption|(simp only [InR] at *;omega)|skip))
        (refine awp_ret ?_; simp [go_sem])
        have : trOk t = true := by simp only [trOk, hall, hall', Bool.and_true, Bool.and_eq_true, decide_eq_true_eq]; omega
        simp [this]
end Go.Proofs.Ytmgbaegdkjcagaa

namespace Go.Proofs.Ytmgbaegdkjcagaa
open Go.Eng
set_option maxRecDepth 20000
attribute [local irreducible] AG CallA CallT AWp PCall ACall AgC

theorem clone_spec (l : List Int) (hl : l.length ≤ 2 ^ 40) (h0 : l ≠ []) : ACall Try.prog 40 [dIs l] [] [800000] fun ps r => ∃ g, ps = [(g, .row 3 1 (l.map cI))] ∧ r = .own 800000 g := by
  refine acall_of Try.func40 rfl rfl Try.ntmps40 (rs := [.tmp 2]) (tys := [26]) rfl rfl (by simp) (by simp) ?_
  (refine awp_sr fun KK hKK => ?_; simp [go_sem]; ((repeat' (first|(refine ag_x ?_;simp [go_sem])|intro _|refine And.intro ?_ ?_|(apply hKK;clear hKK KK)));all_goals first|refine Hold.mk ?_|omega|with_reducible assumption|(simp only [InR] at *;omega)|skip))
  refine awp_seq_k fun K1 hK1 => ?_
  (refine awp_sr fun KK hKK => ?_; simp [go_sem]; ((repeat' (first|(refine ag_x ?_;simp [go_sem])|intro _|refine And.intro ?_ ?_|(apply hKK;clear hKK KK)));all_goals first|refine Hold.mk ?_|omega|with_reducible assumption|(simp only [InR] at *;omega)|skip))
  case refine_2 => rename_i hn; exact absurd hn h0
  refine awp_if fun T F hT hF => ?_
  simp [go_sem]
  refine hF ?_
  refine awp_skip ?_
  refine hK1 _ ?_; clear hK1
  (refine awp_sr fun KK hKK => ?_; simp [go_sem]; ((repeat' (first|(refine ag_x ?_;simp [go_sem])|intro _|refine And.intro ?_ ?_|(apply hKK;clear hKK KK)));all_goals first|refine Hold.mk ?_|omega|with_reducible assumption|(simp only [InR] at *;omega)|skip))
  refine awp_renrow 2 800000 rfl rfl (by decide) fun g => ?_
  simp only [go_sem]
  refine awp_ret ?_
  simp [go_sem]

structure Res where (exit back rounds : Int) (slots told : List Int) deriving DecidableEq
@[go_sem] abbrev dRes (r : Res) : D := .agg [dI r.exit, dI r.back, dI r.rounds, dIs r.slots, dIs r.told]
/-- the words that an exit's slots name -/
def pickW (ws : List Int) (l : List Int) : List Int := l.map fun s => ws.getD s.toNat 0

theorem out_spec (t : Tr) (rounds : Int) (told : List Int) (x : Nat) (ws : List Int) (e : Exi) (hx : t.exits[x]? = some e) (hs : ∀ s ∈ e.slots, 0 ≤ s ∧ s < ws.length) (hl : e.slots.length ≤ 20) :
    PCall Try.prog 41 [dTr t, .agg [dI 0, dI 0, dI rounds, .v (.slice none 0 0), dIs told], dI x, dIs ws] fun r => r = dRes ⟨x, e.back, rounds, pickW ws e.slots, told⟩ := by
  refine pcall_of Try.func41 rfl rfl Try.ntmps41 (rs := [.cell 8 35]) (tys := [35]) rfl rfl (by simp) ?_
  (refine awp_sr fun KK hKK => ?_; simp [go_sem]; ((repeat' (first|(refine ag_x ?_;simp [go_sem])|intro _|refine And.intro ?_ ?_|(apply hKK;clear hKK KK)));all_goals first|refine Hold.mk ?_|omega|with_reducible assumption|(simp only [InR] at *;omega)|skip))
  rename_i g1 g2 g3
  refine awp_frzbox 4 rfl rfl ?_
  refine awp_nilbox 38 3 1 3 (sb := 5) rfl rfl (by decide) fun g4 => ?_
  simp only [go_sem, List.set]
  refine awp_join ⟨[(4, .rd [dI t.regs, .sl 6 (t.code.map cIns), .sl 2 (t.exits.map cExi)]), (5, .ptr 5 g2 0), (8, .ptr 8 g3 0), (2, dI x), (3, dIs ws)],
    [(5, g2, .box [dI x, dI e.back, dI rounds, .own 38 g4, dIs told]), (38, g4, .row 3 1 []), (8, g3, .box [dI 0, dI 0, dI 0, .v (.slice none 0 0), .v (.slice none 0 0)])]⟩ ?_ ?_
  · ((refine awp_d (.qs [0, 1, 3, 7] (.two 2 (.qs [4, 5] (.two 6 (.one 8 (.qs [9] (.one 10 (.nil)))) 8 (.qs [6, 9] (.one 10 (.nil))))) 8 (.qs [2, 4, 5, 6, 9] (.one 10 (.nil))))) (by kernel_rfl) ?_ ?_ ?_ ?_); (kernel_rfl); (exact (by decide +kernel)); (kernel_rfl); intro KK hKK; ((repeat' (first|(refine ag_x ?_;simp [go_sem, hx])|refine adr_nil ?_|refine adr_two ?_ ?_|refine adr_kp2 ?_ ?_|((first|refine adr_qs fun KK hKK=>?_|refine adr_y fun KK hKK=>?_);simp [go_sem, hx])|intro _|refine And.intro ?_ ?_|(apply hKK;clear hKK KK)));all_goals first|refine Hold.mk ?_|omega|with_reducible assumption|(simp only [InR] at *;omega)|skip))
    all_goals (refine cov_of ?_ ?_ <;> simp [go_sem])
  refine awp_seq_k fun K1 hK1 => ?_
  (refine awp_sr fun KK hKK => ?_; simp [go_sem, hx]; ((repeat' (first|(refine ag_x ?_;simp [go_sem, hx])|intro _|refine And.intro ?_ ?_|(apply hKK;clear hKK KK)));all_goals first|refine Hold.mk ?_|omega|with_reducible assumption|(simp only [InR] at *;omega)|skip))
  refine awp_block ?_
  refine awp_loop (σ := Nat × Nat) (fun k => ⟨[(5, .ptr 5 g2 0), (8, .ptr 8 g3 0), (3, dIs ws), (25, dIs e.slots), (26, dI e.slots.length), (27, dI k.1)],
    [(5, g2, .box [dI x, dI e.back, dI rounds, .own 38 k.2, dIs told]), (38, k.2, .row 3 1 ((pickW ws (e.slots.take k.1)).map cI)), (8, g3, .box [dI 0, dI 0, dI 0, .v (.slice none 0 0), .v (.slice none 0 0)])]⟩)
    (fun k => k.1 ≤ e.slots.length) (fun k => e.slots.length - k.1) (0, g4) ?_ ?_ ?_
  · (refine cov_of ?_ ?_ <;> simp [go_sem, pickW])
  · simp
  rintro ⟨k, g⟩ hk
  simp only at hk
  (refine awp_sr fun KK hKK => ?_; simp [go_sem]; ((repeat' (first|(refine ag_x ?_;simp [go_sem])|intro _|refine And.intro ?_ ?_|(apply hKK;clear hKK KK)));all_goals first|refine Hold.mk ?_|omega|with_reducible assumption|(simp only [InR] at *;omega)|skip))
  refine awp_seq_k fun K2 hK2 => ?_
  (refine awp_if fun T F hT hF => ?_; simp [go_sem]; refine BR.intro (fun h3 => hT ?_) (fun h3 => hF ?_); all_goals clear hT hF T F; try simp at h3)
  · refine awp_skip ?_
    refine hK2 _ ?_; clear hK2
    obtain ⟨s, hsx⟩ : ∃ s, e.slots[k]? = some s := ⟨_, List.getElem?_eq_getElem h3⟩
    have hs2 := hs s (List.mem_of_getElem? hsx)
    obtain ⟨v, hv⟩ : ∃ v, ws[s.toNat]? = some v := ⟨_, List.getElem?_eq_getElem (by omega)⟩
    have hpl : (pickW ws (e.slots.take k)).length ≤ 20 := by simp [pickW]; omega
    refine awp_seq_k fun K4 hK4 => ?_
    refine awp_block ?_
    (refine awp_sr fun KK hKK => ?_; simp [go_sem, hsx]; ((repeat' (first|(refine ag_x ?_;simp [go_sem, hsx])|intro _|refine And.intro ?_ ?_|(apply hKK;clear hKK KK)));all_goals first|refine Hold.mk ?_|omega|with_reducible assumption|(simp only [InR] at *;omega)|skip))
    ((refine awp_d (.qs [0, 1, 2, 3, 4, 5] (.kp 6 (.one 7 (.qs [8] (.one 9 .nil))))) (by kernel_rfl) ?_ ?_ ?_ ?_); (kernel_rfl); (exact (by decide +kernel)); (kernel_rfl); intro KK hKK; ((repeat' (first|(refine ag_x ?_;simp [go_sem, hv])|refine adr_nil ?_|refine adr_two ?_ ?_|refine adr_kp2 ?_ ?_|((first|refine adr_qs fun KK hKK=>?_|refine adr_y fun KK hKK=>?_);simp [go_sem, hv])|intro _|refine And.intro ?_ ?_|(apply hKK;clear hKK KK)));all_goals first|refine Hold.mk ?_|omega|with_reducible assumption|(simp only [InR] at *;omega)|skip))
    rename_i g5 g6
    refine hK4 _ ?_; clear hK4
    (refine awp_r fun KK hKK => ?_; simp [go_sem]; ((repeat' (first|(refine ag_x ?_;simp [go_sem])|intro _|refine And.intro ?_ ?_|(apply hKK;clear hKK KK)));all_goals first|refine Hold.mk ?_|omega|with_reducible assumption|(simp only [InR] at *;omega)|skip))
    have ht : pickW ws (e.slots.take (k + 1)) = pickW ws (e.slots.take k) ++ [v] := by
      rw [List.take_add_one, hsx]
      simp [pickW, List.getD, hv]
    refine ⟨(k + 1, g6), ?_, h3, by simp; omega⟩
    (refine cov_of ?_ ?_ <;> simp [go_sem, ht])
  · refine awp_exit ?_
    simp only [go_sem]
    refine hK1 _ ?_; clear hK1
    have : k = e.slots.length := by omega
    subst this
    simp only [List.take_length]
    (refine awp_sr fun KK hKK => ?_; simp [go_sem]; ((repeat' (first|(refine ag_x ?_;simp [go_sem])|intro _|refine And.intro ?_ ?_|(apply hKK;clear hKK KK)));all_goals first|refine Hold.mk ?_|omega|with_reducible assumption|(simp only [InR] at *;omega)|skip))
    (refine awp_ret ?_; simp [go_sem])
end Go.Proofs.Ytmgbaegdkjcagaa

namespace Go.Proofs.Ytmgbaegdkjcagaa
open Go.Eng
set_option maxRecDepth 20000
attribute [local irreducible] AG CallA CallT AWp PCall ACall AgC

def wAt (ws : List Int) (a : Int) : Int := ws.getD a.toNat 0
/-- one instruction of the document: what it tells, whether it tells, whether it leaves, the words behind it -/
def stepV (i : Ins) (ws : List Int) : Int × Bool × Bool × List Int :=
  if i.op = 0 then (0, false, false, ws.set i.d.toNat i.n)
  else if i.op = 1 then (0, false, false, ws.set i.d.toNat (wAt ws i.a))
  else if i.op = 9 then (0, false, !decide (wAt ws i.a = i.n), ws)
  else if i.op = 10 then (wAt ws i.a, true, false, ws)
  else if (valR i.op (wAt ws i.a) (wAt ws i.b)).2 then (0, false, false, ws.set i.d.toNat (valR i.op (wAt ws i.a) (wAt ws i.b)).1) else (0, false, true, ws)

theorem step_spec (g : Nat) (i : Ins) (ws : List Int) (hw : ∀ x ∈ ws, isW x = true) (ha : 0 ≤ i.a ∧ i.a < ws.length) (hb : 0 ≤ i.b ∧ i.b < ws.length) (hd : 0 ≤ i.d ∧ i.d < ws.length) :
    ACall Try.prog 43 [.agg (cIns i), .own 900000 g] [(900000, (g, .row 3 1 (ws.map cI)))] [900000] fun ps r => ps = [(g, .row 3 1 ((stepV i ws).2.2.2.map cI))] ∧ r = .tup [dI (stepV i ws).1, dB (stepV i ws).2.1, dB (stepV i ws).2.2.1] := by
  obtain ⟨va, hva⟩ : ∃ v, ws[i.a.toNat]? = some v := ⟨_, List.getElem?_eq_getElem (by omega)⟩
  obtain ⟨vb, hvb⟩ : ∃ v, ws[i.b.toNat]? = some v := ⟨_, List.getElem?_eq_getElem (by omega)⟩
  obtain ⟨vd, hvd⟩ : ∃ v, ws[i.d.toNat]? = some v := ⟨_, List.getElem?_eq_getElem (by omega)⟩
  have hwa := hw va (List.mem_of_getElem? hva)
  have hwb := hw vb (List.mem_of_getElem? hvb)
  have ea : wAt ws i.a = va := by simp [wAt, List.getD, hva]
  have eb : wAt ws i.b = vb := by simp [wAt, List.getD, hvb]
  refine acall_of Try.func43 rfl rfl Try.ntmps43 (rs := [.tmp 4, .tmp 5, .tmp 6]) (tys := [3, 4, 4]) rfl rfl (by simp) (by simp [notFroz]) ?_
  (refine awp_sr fun KK hKK => ?_; simp [go_sem]; ((repeat' (first|(refine ag_x ?_;simp [go_sem])|intro _|refine And.intro ?_ ?_|(apply hKK;clear hKK KK)));all_goals first|refine Hold.mk ?_|omega|with_reducible assumption|(simp only [InR] at *;omega)|skip))
  refine awp_frzbox 2 rfl rfl ?_
  simp only [go_sem]
  refine awp_seq_k fun K1 hK1 => ?_
  (refine awp_sr fun KK hKK => ?_; simp [go_sem]; ((repeat' (first|(refine ag_x ?_;simp [go_sem])|intro _|refine And.intro ?_ ?_|(apply hKK;clear hKK KK)));all_goals first|refine Hold.mk ?_|omega|with_reducible assumption|(simp only [InR] at *;omega)|skip))
  have hls : ∀ x, (ws.set i.d.toNat x).length = ws.length := fun x => by simp
  refine awp_block ?_
  (refine awp_sr fun KK hKK => ?_; simp [go_sem]; ((repeat' (first|(refine ag_x ?_;simp [go_sem])|intro _|refine And.intro ?_ ?_|(apply hKK;clear hKK KK)));all_goals first|refine Hold.mk ?_|omega|with_reducible assumption|(simp only [InR] at *;omega)|skip))
  (refine awp_if fun T F hT hF => ?_; simp [go_sem]; refine BR.intro (fun h2 => hT ?_) (fun h2 => hF ?_); all_goals clear hT hF T F; try simp at h2)
  · (refine awp_r fun KK hKK => ?_; simp [go_sem, hvd]; ((repeat' (first|(refine ag_x ?_;simp [go_sem, hvd])|intro _|refine And.intro ?_ ?_|(apply hKK;clear hKK KK)));all_goals first|refine Hold.mk ?_|omega|with_reducible assumption|(simp only [InR] at *;omega)|skip))
    refine hK1 _ ?_; clear hK1
    (refine awp_sr fun KK hKK => ?_; simp [go_sem]; ((repeat' (first|(refine ag_x ?_;simp [go_sem])|intro _|refine And.intro ?_ ?_|(apply hKK;clear hKK KK)));all_goals first|refine Hold.mk ?_|omega|with_reducible assumption|(simp only [InR] at *;omega)|skip))
    (refine awp_ret ?_; simp [go_sem, stepV, h2])
  · (refine awp_sr fun KK hKK => ?_; simp [go_sem]; ((repeat' (first|(refine ag_x ?_;simp [go_sem])|intro _|refine And.intro ?_ ?_|(apply hKK;clear hKK KK)));all_goals first|refine Hold.mk ?_|omega|with_reducible assumption|(simp only [InR] at *;omega)|skip))
    (refine awp_if fun T F hT hF => ?_; simp [go_sem]; refine BR.intro (fun h3 => hT ?_) (fun h3 => hF ?_); all_goals clear hT hF T F; try simp at h3)
    · ((refine awp_d (.qs [0, 1, 3, 4, 2, 5, 6, 7, 8] (.one 9 (.nil))) (by kernel_rfl) ?_ ?_ ?_ ?_); (kernel_rfl); (exact (by decide +kernel)); (kernel_rfl); intro KK hKK; ((repeat' (first|(refine ag_x ?_;simp [go_sem, hva, hvd])|refine adr_nil ?_|refine adr_two ?_ ?_|refine adr_kp2 ?_ ?_|((first|refine adr_qs fun KK hKK=>?_|refine adr_y fun KK hKK=>?_);simp [go_sem, hva, hvd])|intro _|refine And.intro ?_ ?_|(apply hKK;clear hKK KK)));all_goals first|refine Hold.mk ?_|omega|with_reducible assumption|(simp only [InR] at *;omega)|skip))
      refine hK1 _ ?_; clear hK1
      (refine awp_sr fun KK hKK => ?_; simp [go_sem]; ((repeat' (first|(refine ag_x ?_;simp [go_sem])|intro _|refine And.intro ?_ ?_|(apply hKK;clear hKK KK)));all_goals first|refine Hold.mk ?_|omega|with_reducible assumption|(simp only [InR] at *;omega)|skip))
      (refine awp_ret ?_; simp [go_sem, stepV, h3, ea])
    · (refine awp_sr fun KK hKK => ?_; simp [go_sem]; ((repeat' (first|(refine ag_x ?_;simp [go_sem])|intro _|refine And.intro ?_ ?_|(apply hKK;clear hKK KK)));all_goals first|refine Hold.mk ?_|omega|with_reducible assumption|(simp only [InR] at *;omega)|skip))
      (refine awp_if fun T F hT hF => ?_; simp [go_sem]; refine BR.intro (fun h4 => hT ?_) (fun h4 => hF ?_); all_goals clear hT hF T F; try simp at h4)
      · ((refine awp_dr (.qs [0, 1, 5, 8, 9, 2, 3, 4, 6, 7, 10] (.nil)) (by kernel_rfl) ?_ ?_ ?_ ?_); (kernel_rfl); (exact (by decide +kernel)); (kernel_rfl); intro KK hKK; ((repeat' (first|(refine ag_x ?_;simp [go_sem, hva])|refine adr_nil ?_|refine adr_two ?_ ?_|refine adr_kp2 ?_ ?_|((first|refine adr_qs fun KK hKK=>?_|refine adr_y fun KK hKK=>?_);simp [go_sem, hva])|intro _|refine And.intro ?_ ?_|(apply hKK;clear hKK KK)));all_goals first|refine Hold.mk ?_|omega|with_reducible assumption|(simp only [InR] at *;omega)|skip))
        (refine awp_ret ?_; simp [go_sem, stepV, h4, ea])
      · (refine awp_sr fun KK hKK => ?_; simp [go_sem]; ((repeat' (first|(refine ag_x ?_;simp [go_sem])|intro _|refine And.intro ?_ ?_|(apply hKK;clear hKK KK)));all_goals first|refine Hold.mk ?_|omega|with_reducible assumption|(simp only [InR] at *;omega)|skip))
        (refine awp_if fun T F hT hF => ?_; simp [go_sem]; refine BR.intro (fun h5 => hT ?_) (fun h5 => hF ?_); all_goals clear hT hF T F; try simp at h5)
        · (refine awp_sr fun KK hKK => ?_; simp [go_sem, hva]; ((repeat' (first|(refine ag_x ?_;simp [go_sem, hva])|intro _|refine And.intro ?_ ?_|(apply hKK;clear hKK KK)));all_goals first|refine Hold.mk ?_|omega|with_reducible assumption|(simp only [InR] at *;omega)|skip))
          (refine awp_ret ?_; simp [go_sem, stepV, h5, ea])
        · ((refine awp_dr (.qs [0, 2, 3, 7, 8, 1, 4, 5, 6, 9, 10, 11] (.one 12 (.qs [13, 14, 15, 16, 17] (.nil)))) (by kernel_rfl) ?_ ?_ ?_ ?_); (kernel_rfl); (exact (by decide +kernel)); (kernel_rfl); intro KK hKK; ((repeat' (first|(refine ag_x ?_;simp [go_sem, hva, hvb])|refine adr_nil ?_|refine adr_two ?_ ?_|refine adr_kp2 ?_ ?_|((first|refine adr_qs fun KK hKK=>?_|refine adr_y fun KK hKK=>?_);simp [go_sem, hva, hvb])|intro _|refine And.intro ?_ ?_|(apply hKK;clear hKK KK)));all_goals first|refine Hold.mk ?_|omega|with_reducible assumption|(simp only [InR] at *;omega)|skip))
          ((try refine CallT.toA ?_); refine callT_m (by first | exact .inl ⟨rfl, rfl⟩ | exact .inr rfl) (by simp [go_sem]) ?_; intro args ha; simp [go_sem] at ha; subst ha; refine ⟨_, (rvalue_spec _ _ _ hwa hwb), ?_⟩; rintro _ rfl; simp [go_sem]; ((repeat' (first|(refine ag_x ?_;simp [go_sem])|refine adr_nil ?_|refine adr_two ?_ ?_|refine adr_kp2 ?_ ?_|((first|refine adr_qs fun KK hKK=>?_|refine adr_y fun KK hKK=>?_);simp [go_sem])|intro _|refine And.intro ?_ ?_|(apply hKK;clear hKK KK)));all_goals first|refine Hold.mk ?_|omega|with_reducible assumption|(simp only [InR] at *;omega)|skip))
          refine awp_seq_k fun K2 hK2 => ?_
          (refine awp_sr fun KK hKK => ?_; simp [go_sem]; ((repeat' (first|(refine ag_x ?_;simp [go_sem])|intro _|refine And.intro ?_ ?_|(apply hKK;clear hKK KK)));all_goals first|refine Hold.mk ?_|omega|with_reducible assumption|(simp only [InR] at *;omega)|skip))
          (refine awp_if fun T F hT hF => ?_; simp [go_sem]; refine BR.intro (fun h6 => hT ?_) (fun h6 => hF ?_); all_goals clear hT hF T F; try simp at h6)
          · (refine awp_sr fun KK hKK => ?_; simp [go_sem]; ((repeat' (first|(refine ag_x ?_;simp [go_sem])|intro _|refine And.intro ?_ ?_|(apply hKK;clear hKK KK)));all_goals first|refine Hold.mk ?_|omega|with_reducible assumption|(simp only [InR] at *;omega)|skip))
            (refine awp_ret ?_; simp [go_sem, stepV, h2, h3, h4, h5, ea, eb, h6])
          · refine awp_skip ?_
            refine hK2 _ ?_; clear hK2
            (refine awp_r fun KK hKK => ?_; simp [go_sem, hvd]; ((repeat' (first|(refine ag_x ?_;simp [go_sem, hvd])|intro _|refine And.intro ?_ ?_|(apply hKK;clear hKK KK)));all_goals first|refine Hold.mk ?_|omega|with_reducible assumption|(simp only [InR] at *;omega)|skip))
            refine hK1 _ ?_; clear hK1
            (refine awp_sr fun KK hKK => ?_; simp [go_sem]; ((repeat' (first|(refine ag_x ?_;simp [go_sem])|intro _|refine And.intro ?_ ?_|(apply hKK;clear hKK KK)));all_goals first|refine Hold.mk ?_|omega|with_reducible assumption|(simp only [InR] at *;omega)|skip))
            (refine awp_ret ?_; simp [go_sem, stepV, h2, h3, h4, h5, ea, eb, h6])
end Go.Proofs.Ytmgbaegdkjcagaa

namespace Go.Proofs.Ytmgbaegdkjcagaa
open Go.Eng
set_option maxRecDepth 20000
def insR (regs nex : Int) (i : Ins) : Bool :=
  (decide (0 ≤ i.op) && decide (i.op ≤ 10)) && (fldOk i.op 68 i.d 0 (regs - 1) && fldOk i.op 65 i.a 0 (regs - 1) && fldOk i.op 66 i.b 0 (regs - 1) && fldOk i.op 78 i.n (-1000000000000000) 1000000000000000 && fldOk i.op 88 i.x 0 (nex - 1))
theorem insR_eq (regs nex : Int) (i : Ins) : insR regs nex i = insOk regs nex i := by
  by_cases h : 0 ≤ i.op ∧ i.op ≤ 10
  · have hk : i.op = 0 ∨ i.op = 1 ∨ i.op = 2 ∨ i.op = 3 ∨ i.op = 4 ∨ i.op = 5 ∨ i.op = 6 ∨ i.op = 7 ∨ i.op = 8 ∨ i.op = 9 ∨ i.op = 10 := by omega
    rw [Bool.eq_iff_iff]
    rcases hk with h | h | h | h | h | h | h | h | h | h | h <;> simp [insR, insOk, fldOk, fOk, ltr, fVal, isB, isW, flds, h] <;> omega
  · have : flds i.op = [] := by
      unfold flds
      repeat' split
      all_goals first | rfl | omega
    simp only [insR, insOk, this]
    by_cases h1 : 0 ≤ i.op <;> by_cases h2 : i.op ≤ 10 <;> simp [h1, h2]
    exact absurd ⟨h1, h2⟩ h
end Go.Proofs.Ytmgbaegdkjcagaa

namespace Go.Proofs.Ytmgbaegdkjcagaa
open Go.Eng
set_option maxRecDepth 20000
attribute [local irreducible] AG CallA CallT AWp PCall ACall AgC

theorem rvalid_spec (t : Tr) : PCall Try.prog 21 [dTr t] fun r => r = dB (trOk t) := by 
  refine pcall_of Try.func21 rfl rfl Try.ntmps21 (rs := [.tmp 2]) (tys := [4]) rfl rfl (by simp) ?_
  (refine awp_sr fun KK hKK => ?_; simp [go_sem]; ((repeat' (first|(refine ag_x ?_;simp [go_sem])|intro _|refine And.intro ?_ ?_|(apply hKK;clear hKK KK)));all_goals first|refine Hold.mk ?_|omega|with_reducible assumption|(simp only [InR] at *;omega)|skip))
  refine awp_frzbox 1 rfl rfl ?_
  simp only [go_sem]
  refine awp_seq_k fun K1 hK1 => ?_
  (refine awp_sr fun KK hKK => ?_; simp [go_sem]; ((repeat' (first|(refine ag_x ?_;simp [go_sem])|intro _|refine And.intro ?_ ?_|(apply hKK;clear hKK KK)));all_goals first|refine Hold.mk ?_|omega|with_reducible assumption|(simp only [InR] at *;omega)|skip))
  ((try refine CallT.toA ?_); refine callT_m (by first | exact .inl ⟨rfl, rfl⟩ | exact .inr rfl) (by simp [go_sem]) ?_; intro args ha; simp [go_sem] at ha; subst ha; refine ⟨_, (in_spec _ _ _), ?_⟩; rintro _ rfl; simp [go_sem]; ((repeat' (first|(refine ag_x ?_;simp [go_sem])|intro _|refine And.intro ?_ ?_|(apply hKK;clear hKK KK)));all_goals first|refine Hold.mk ?_|omega|with_reducible assumption|(simp only [InR] at *;omega)|skip))
  (refine awp_if fun T F hT hF => ?_; simp [go_sem]; refine BR.intro (fun h2 => hT ?_) (fun h2 => hF ?_); all_goals clear hT hF T F; try simp at h2)
  · (refine awp_sr fun KK hKK => ?_; simp [go_sem]; ((repeat' (first|(refine ag_x ?_;simp [go_sem])|intro _|refine And.intro ?_ ?_|(apply hKK;clear hKK KK)));all_goals first|refine Hold.mk ?_|omega|with_reducible assumption|(simp only [InR] at *;omega)|skip))
    (refine awp_ret ?_; simp [go_sem])
    simp [trOk]
    omega
  · refine awp_skip ?_
    refine hK1 _ ?_; clear hK1
    refine awp_seq_k fun K3 hK3 => ?_
    (refine awp_sr fun KK hKK => ?_; simp [go_sem]; ((repeat' (first|(refine ag_x ?_;simp [go_sem])|intro _|refine And.intro ?_ ?_|(apply hKK;clear hKK KK)));all_goals first|refine Hold.mk ?_|omega|with_reducible assumption|(simp only [InR] at *;omega)|skip))
    refine awp_block ?_
    refine awp_loop (σ := Nat) (fun k => ⟨[(1, .rd [dI t.regs, .sl 6 (t.code.map cIns), .sl 2 (t.exits.map cExi)]), (3, dI k)], []⟩) (fun k => k ≤ t.code.length ∧ (t.code.take k).all (insOk t.regs t.exits.length) = true) (fun k => t.code.length - k) 0 ?_ ?_ ?_
    · (refine cov_of ?_ ?_ <;> simp [go_sem])
    · simp
    rintro k ⟨hk, hall⟩
    refine awp_seq_k fun K4 hK4 => ?_
    (refine awp_sr fun KK hKK => ?_; simp [go_sem]; ((repeat' (first|(refine ag_x ?_;simp [go_sem])|intro _|refine And.intro ?_ ?_|(apply hKK;clear hKK KK)));all_goals first|refine Hold.mk ?_|omega|with_reducible assumption|(simp only [InR] at *;omega)|skip))
    (refine awp_if fun T F hT hF => ?_; simp [go_sem]; refine BR.intro (fun h5 => hT ?_) (fun h5 => hF ?_); all_goals clear hT hF T F; try simp at h5)
    · refine awp_skip ?_
      refine hK4 _ ?_; clear hK4
      obtain ⟨x, hx⟩ : ∃ x, t.code[k]? = some x := ⟨_, List.getElem?_eq_getElem (by omega)⟩
      refine awp_seq_k fun K5 hK5 => ?_
      refine awp_block ?_
      (refine awp_sr fun KK hKK => ?_; simp [go_sem, hx]; ((repeat' (first|(refine ag_x ?_;simp [go_sem, hx])|intro _|refine And.intro ?_ ?_|(apply hKK;clear hKK KK)));all_goals first|refine Hold.mk ?_|omega|with_reducible assumption|(simp only [InR] at *;omega)|skip))
      refine awp_seq_k fun K6 hK6 => ?_
      (refine awp_sr fun KK hKK => ?_; simp [go_sem]; ((repeat' (first|(refine ag_x ?_;simp [go_sem])|intro _|refine And.intro ?_ ?_|(apply hKK;clear hKK KK)));all_goals first|refine Hold.mk ?_|omega|with_reducible assumption|(simp only [InR] at *;omega)|skip))
      ((try refine CallT.toA ?_); refine callT_m (by first | exact .inl ⟨rfl, rfl⟩ | exact .inr rfl) (by simp [go_sem]) ?_; intro args ha; simp [go_sem] at ha; subst ha; refine ⟨_, (in_spec _ _ _), ?_⟩; rintro _ rfl; simp [go_sem]; ((repeat' (first|(refine ag_x ?_;simp [go_sem])|intro _|refine And.intro ?_ ?_|(apply hKK;clear hKK KK)));all_goals first|refine Hold.mk ?_|omega|with_reducible assumption|(simp only [InR] at *;omega)|skip))
      (refine awp_if fun T F hT hF => ?_; simp [go_sem]; refine BR.intro (fun h6 => hT ?_) (fun h6 => hF ?_); all_goals clear hT hF T F; try simp at h6)
      · (refine awp_sr fun KK hKK => ?_; simp [go_sem]; ((repeat' (first|(refine ag_x ?_;simp [go_sem])|intro _|refine And.intro ?_ ?_|(apply hKK;clear hKK KK)));all_goals first|refine Hold.mk ?_|omega|with_reducible assumption|(simp only [InR] at *;omega)|skip))
        (refine awp_ret ?_; simp [go_sem])
        have := all_at hx (p := insOk t.regs t.exits.length) (by rw [← insR_eq]; simp [insR]; omega)
        simp [trOk, this]
      · refine awp_skip ?_
        refine hK6 _ ?_; clear hK6
        have h1 : 0 ≤ x.op := h6.1
        have h2' : x.op ≤ 10 := h6.2
        (refine awp_sr fun KK hKK => ?_; simp [go_sem]; ((repeat' (first|(refine ag_x ?_;simp [go_sem])|intro _|refine And.intro ?_ ?_|(apply hKK;clear hKK KK)));all_goals first|refine Hold.mk ?_|omega|with_reducible assumption|(simp only [InR] at *;omega)|skip))
        (refine awp_sr fun KK hKK => ?_; simp [go_sem]; ((repeat' (first|(refine ag_x ?_;simp [go_sem])|intro _|refine And.intro ?_ ?_|(apply hKK;clear hKK KK)));all_goals first|refine Hold.mk ?_|omega|with_reducible assumption|(simp only [InR] at *;omega)|skip))
        ((try refine CallT.toA ?_); refine callT_m (by first | exact .inl ⟨rfl, rfl⟩ | exact .inr rfl) (by simp [go_sem]) ?_; intro args ha; simp [go_sem] at ha; subst ha; refine ⟨_, (rfield_spec _ _ _ _ _ h1 h2'), ?_⟩; rintro _ rfl; simp [go_sem]; ((repeat' (first|(refine ag_x ?_;simp [go_sem])|intro _|refine And.intro ?_ ?_|(apply hKK;clear hKK KK)));all_goals first|refine Hold.mk ?_|omega|with_reducible assumption|(simp only [InR] at *;omega)|skip))
        (refine agc_f (dB (fldOk x.op 65 x.a 0 (t.regs - 1))) (by first | exact .inl ⟨rfl, rfl⟩ | exact .inr rfl) ?_ rfl ?_; (intro hc args ha; simp [go_sem] at ha; subst ha; exact (rfield_spec _ _ _ _ _ h1 h2')); simp [go_sem]; ((repeat' (first|(refine ag_x ?_;simp [go_sem])|intro _|refine And.intro ?_ ?_|(apply hKK;clear hKK KK)));all_goals first|refine Hold.mk ?_|omega|with_reducible assumption|(simp only [InR] at *;omega)|skip))
        (refine agc_f (dB (fldOk x.op 66 x.b 0 (t.regs - 1))) (by first | exact .inl ⟨rfl, rfl⟩ | exact .inr rfl) ?_ rfl ?_; (intro hc args ha; simp [go_sem] at ha; subst ha; exact (rfield_spec _ _ _ _ _ h1 h2')); simp [go_sem]; ((repeat' (first|(refine ag_x ?_;simp [go_sem])|intro _|refine And.intro ?_ ?_|(apply hKK;clear hKK KK)));all_goals first|refine Hold.mk ?_|omega|with_reducible assumption|(simp only [InR] at *;omega)|skip))
        (refine agc_f (dB (fldOk x.op 78 x.n (-1000000000000000) 1000000000000000)) (by first | exact .inl ⟨rfl, rfl⟩ | exact .inr rfl) ?_ rfl ?_; (intro hc args ha; simp [go_sem] at ha; subst ha; exact (rfield_spec _ _ _ _ _ h1 h2')); simp [go_sem]; ((repeat' (first|(refine ag_x ?_;simp [go_sem])|intro _|refine And.intro ?_ ?_|(apply hKK;clear hKK KK)));all_goals first|refine Hold.mk ?_|omega|with_reducible assumption|(simp only [InR] at *;omega)|skip))
        (refine agc_f (dB (fldOk x.op 88 x.x 0 (t.exits.length - 1))) (by first | exact .inl ⟨rfl, rfl⟩ | exact .inr rfl) ?_ rfl ?_; (intro hc args ha; simp [go_sem] at ha; subst ha; exact (rfield_spec _ _ _ _ _ h1 h2')); simp [go_sem]; ((repeat' (first|(refine ag_x ?_;simp [go_sem])|intro _|refine And.intro ?_ ?_|(apply hKK;clear hKK KK)));all_goals first|refine Hold.mk ?_|omega|with_reducible assumption|(simp only [InR] at *;omega)|skip))
        (refine awp_if fun T F hT hF => ?_; simp [go_sem]; refine BR.intro (fun h7 => hT ?_) (fun h7 => hF ?_); all_goals clear hT hF T F; try simp at h7)
        · (refine awp_sr fun KK hKK => ?_; simp [go_sem]; ((repeat' (first|(refine ag_x ?_;simp [go_sem])|intro _|refine And.intro ?_ ?_|(apply hKK;clear hKK KK)));all_goals first|refine Hold.mk ?_|omega|with_reducible assumption|(simp only [InR] at *;omega)|skip))
          (refine awp_ret ?_; simp [go_sem])
          have := all_at hx (p := insOk t.regs t.exits.length) (by rw [← insR_eq]; rcases h7 with (((h | h) | h) | h) | h <;> simp [insR, h])
          simp [trOk, this]
        · refine awp_skip ?_
          refine hK5 _ ?_; clear hK5
          (refine awp_r fun KK hKK => ?_; simp [go_sem]; ((repeat' (first|(refine ag_x ?_;simp [go_sem])|intro _|refine And.intro ?_ ?_|(apply hKK;clear hKK KK)));all_goals first|refine Hold.mk ?_|omega|with_reducible assumption|(simp only [InR] at *;omega)|skip))
          refine ⟨k + 1, ?_, ⟨by omega, take_all hall hx ?_⟩, by omega⟩
          · (refine cov_of ?_ ?_ <;> simp [go_sem])
          · rw [← insR_eq]; simp [insR, h1, h2', h7]
    · refine awp_exit ?_
      simp only [go_sem]
      refine hK3 _ ?_; clear hK3
      have : k = t.code.length := by omega
      subst this
      rw [List.take_length] at hall
      refine awp_seq_k fun K7 hK7 => ?_
      (refine awp_sr fun KK hKK => ?_; simp [go_sem]; ((repeat' (first|(refine ag_x ?_;simp [go_sem])|intro _|refine And.intro ?_ ?_|(apply hKK;clear hKK KK)));all_goals first|refine Hold.mk ?_|omega|with_reducible assumption|(simp only [InR] at *;omega)|skip))
      refine awp_block ?_
      refine awp_loop (σ := Nat) (fun k => ⟨[(1, .rd [dI t.regs, .sl 6 (t.code.map cIns), .sl 2 (t.exits.map cExi)]), (6, dI k)], []⟩) (fun k => k ≤ t.exits.length ∧ (t.exits.take k).all (exOk t.regs) = true) (fun k => t.exits.length - k) 0 ?_ ?_ ?_
      · (refine cov_of ?_ ?_ <;> simp [go_sem])
      · simp
      rintro k ⟨hk', hall'⟩
      refine awp_seq_k fun K8 hK8 => ?_
      (refine awp_sr fun KK hKK => ?_; simp [go_sem]; ((repeat' (first|(refine ag_x ?_;simp [go_sem])|intro _|refine And.intro ?_ ?_|(apply hKK;clear hKK KK)));all_goals first|refine Hold.mk ?_|omega|with_reducible assumption|(simp only [InR] at *;omega)|skip))
      (refine awp_if fun T F hT hF => ?_; simp [go_sem]; refine BR.intro (fun h8 => hT ?_) (fun h8 => hF ?_); all_goals clear hT hF T F; try simp at h8)
      · refine awp_skip ?_
        refine hK8 _ ?_; clear hK8
        obtain ⟨x, hx⟩ : ∃ x, t.exits[k]? = some x := ⟨_, List.getElem?_eq_getElem (by omega)⟩
        refine awp_seq_k fun K9 hK9 => ?_
        refine awp_block ?_
        (refine awp_sr fun KK hKK => ?_; simp [go_sem, hx]; ((repeat' (first|(refine ag_x ?_;simp [go_sem, hx])|intro _|refine And.intro ?_ ?_|(apply hKK;clear hKK KK)));all_goals first|refine Hold.mk ?_|omega|with_reducible assumption|(simp only [InR] at *;omega)|skip))
        refine awp_seq_k fun K10 hK10 => ?_
        (refine awp_sr fun KK hKK => ?_; simp [go_sem]; ((repeat' (first|(refine ag_x ?_;simp [go_sem])|intro _|refine And.intro ?_ ?_|(apply hKK;clear hKK KK)));all_goals first|refine Hold.mk ?_|omega|with_reducible assumption|(simp only [InR] at *;omega)|skip))
        (refine awp_if fun T F hT hF => ?_; simp [go_sem]; refine BR.intro (fun h9 => hT ?_) (fun h9 => hF ?_); all_goals clear hT hF T F; try simp at h9)
        · (refine awp_sr fun KK hKK => ?_; simp [go_sem]; ((repeat' (first|(refine ag_x ?_;simp [go_sem])|intro _|refine And.intro ?_ ?_|(apply hKK;clear hKK KK)));all_goals first|refine Hold.mk ?_|omega|with_reducible assumption|(simp only [InR] at *;omega)|skip))
          (refine awp_ret ?_; simp [go_sem])
          have := all_at hx (p := exOk t.regs) (by simp [exOk]; omega)
          simp [trOk, this]
        · refine awp_skip ?_
          refine hK10 _ ?_; clear hK10
          (refine awp_sr fun KK hKK => ?_; simp [go_sem]; ((repeat' (first|(refine ag_x ?_;simp [go_sem])|intro _|refine And.intro ?_ ?_|(apply hKK;clear hKK KK)));all_goals first|refine Hold.mk ?_|omega|with_reducible assumption|(simp only [InR] at *;omega)|skip))
          refine awp_block ?_
          refine awp_loop (σ := Nat) (fun j => ⟨[(1, .rd [dI t.regs, .sl 6 (t.code.map cIns), .sl 2 (t.exits.map cExi)]), (6, dI k), (7, dIs x.slots), (8, dI j)], []⟩) (fun j => j ≤ x.slots.length ∧ (x.slots.take j).any (slotBad t.regs) = false) (fun j => x.slots.length - j) 0 ?_ ?_ ?_
          · (refine cov_of ?_ ?_ <;> simp [go_sem])
          · simp
          rintro j ⟨hj, hany⟩
          refine awp_seq_k fun K11 hK11 => ?_
          (refine awp_sr fun KK hKK => ?_; simp [go_sem]; ((repeat' (first|(refine ag_x ?_;simp [go_sem])|intro _|refine And.intro ?_ ?_|(apply hKK;clear hKK KK)));all_goals first|refine Hold.mk ?_|omega|with_reducible assumption|(simp only [InR] at *;omega)|skip))
          (refine awp_if fun T F hT hF => ?_; simp [go_sem]; refine BR.intro (fun h10 => hT ?_) (fun h10 => hF ?_); all_goals clear hT hF T F; try simp at h10)
          · refine awp_skip ?_
            refine hK11 _ ?_; clear hK11
            obtain ⟨y, hy⟩ : ∃ y, x.slots[j]? = some y := ⟨_, List.getElem?_eq_getElem (by omega)⟩
            refine awp_seq_k fun K12 hK12 => ?_
            refine awp_block ?_
            ((refine awp_dr (.qs [0, 1, 2, 4, 3, 5, 6] (.one 7 (.qs [8] (.nil)))) (by kernel_rfl) ?_ ?_ ?_ ?_); (kernel_rfl); (exact (by decide +kernel)); (kernel_rfl); intro KK hKK; ((repeat' (first|(refine ag_x ?_;simp [go_sem, hy])|refine adr_nil ?_|refine adr_two ?_ ?_|refine adr_kp2 ?_ ?_|((first|refine adr_qs fun KK hKK=>?_|refine adr_y fun KK hKK=>?_);simp [go_sem, hy])|intro _|refine And.intro ?_ ?_|(apply hKK;clear hKK KK)));all_goals first|refine Hold.mk ?_|omega|with_reducible assumption|(simp only [InR] at *;omega)|skip))
            ((try refine CallT.toA ?_); refine callT_m (by first | exact .inl ⟨rfl, rfl⟩ | exact .inr rfl) (by simp [go_sem]) ?_; intro args ha; simp [go_sem] at ha; subst ha; refine ⟨_, (in_spec _ _ _), ?_⟩; rintro _ rfl; simp [go_sem]; ((repeat' (first|(refine ag_x ?_;simp [go_sem])|refine adr_nil ?_|refine adr_two ?_ ?_|refine adr_kp2 ?_ ?_|((first|refine adr_qs fun KK hKK=>?_|refine adr_y fun KK hKK=>?_);simp [go_sem])|intro _|refine And.intro ?_ ?_|(apply hKK;clear hKK KK)));all_goals first|refine Hold.mk ?_|omega|with_reducible assumption|(simp only [InR] at *;omega)|skip))
            have hyb : slotBad t.regs y = !(decide (0 ≤ y) && decide (y ≤ t.regs - 1)) := by
              rw [Bool.eq_iff_iff]; simp [slotBad]; omega
            (refine awp_if fun T F hT hF => ?_; simp [go_sem]; refine BR.intro (fun h11 => hT ?_) (fun h11 => hF ?_); all_goals clear hT hF T F; try simp at h11)
            · (refine awp_sr fun KK hKK => ?_; simp [go_sem]; ((repeat' (first|(refine ag_x ?_;simp [go_sem])|intro _|refine And.intro ?_ ?_|(apply hKK;clear hKK KK)));all_goals first|refine Hold.mk ?_|omega|with_reducible assumption|(simp only [InR] at *;omega)|skip))
              (refine awp_ret ?_; simp [go_sem])
              have := all_at hx (p := exOk t.regs) (by
                have : x.slots.any (slotBad t.regs) = true := List.any_eq_true.2 ⟨y, List.mem_of_getElem? hy, by rw [hyb]; simp; omega⟩
                simp [exOk, this])
              simp [trOk, this]
            · refine awp_skip ?_
              simp only [go_sem]
              refine hK12 _ ?_; clear hK12
              (refine awp_r fun KK hKK => ?_; simp [go_sem]; ((repeat' (first|(refine ag_x ?_;simp [go_sem])|intro _|refine And.intro ?_ ?_|(apply hKK;clear hKK KK)));all_goals first|refine Hold.mk ?_|omega|with_reducible assumption|(simp only [InR] at *;omega)|skip))
              refine ⟨j + 1, ?_, ⟨by omega, take_any hany hy (by rw [hyb]; simp; omega)⟩, by omega⟩
              (refine cov_of ?_ ?_ <;> simp [go_sem])
          · refine awp_exit ?_
            simp only [go_sem]
            refine hK9 _ ?_; clear hK9
            have : j = x.slots.length := by omega
            subst this
            rw [List.take_length] at hany
            (refine awp_r fun KK hKK => ?_; simp [go_sem]; ((repeat' (first|(refine ag_x ?_;simp [go_sem])|intro _|refine And.intro ?_ ?_|(apply hKK;clear hKK KK)));all_goals first|refine Hold.mk ?_|omega|with_reducible assumption|(simp only [InR] at *;omega)|skip))
            refine ⟨k + 1, ?_, ⟨by omega, take_all hall' hx (by simp only [exOk, hany]; simp; omega)⟩, by omega⟩
            (refine cov_of ?_ ?_ <;> simp [go_sem])
      · refine awp_exit ?_
        simp only [go_sem]
        refine hK7 _ ?_; clear hK7
        have : k = t.exits.length := by omega
        subst this
        rw [List.take_length] at hall'
        (refine awp_sr fun KK hKK => ?_; simp [go_sem]; ((repeat' (first|(refine ag_x ?_;simp [go_sem])|intro _|refine And.intro ?_ ?_|(apply hKK;clear hKK KK)));all_goals first|refine Hold.mk ?_|omega|with_reducible assumption|(simp only [InR] at *;omega)|skip))
        (refine awp_ret ?_; simp [go_sem])
        have : trOk t = true := by simp only [trOk, hall, hall', Bool.and_true, Bool.and_eq_true, decide_eq_true_eq]; omega
        simp [this]
end Go.Proofs.Ytmgbaegdkjcagaa

namespace Go.Proofs.Ytmgbaegdkjcagaa
open Go.Eng
set_option maxRecDepth 20000
attribute [local irreducible] AG CallA CallT AWp PCall ACall AgC

/-- words and fuel that fit -/
def fitOk (t : Tr) (ws : List Int) (fuel : Int) : Bool := trOk t && decide ((ws.length : Int) = t.regs) && (decide (0 ≤ fuel) && decide (fuel ≤ 10000)) && ws.all isW
theorem trOk_regs {t : Tr} (h : trOk t = true) : 1 ≤ t.regs ∧ t.regs ≤ 20 ∧ t.code.length ≤ 60 ∧ t.exits.length ≤ 10 := by
  simp only [trOk, Bool.and_eq_true, decide_eq_true_eq] at h
  omega
theorem fits_spec (t : Tr) (ws : List Int) (fuel : Int) : PCall Try.prog 35 [dTr t, dIs ws, dI fuel] fun r => r = dB (fitOk t ws fuel) := by 
  refine pcall_of Try.func35 rfl rfl Try.ntmps35 (rs := [.tmp 6]) (tys := [4]) rfl rfl (by simp) ?_
  (refine awp_sr fun KK hKK => ?_; simp [go_sem]; ((repeat' (first|(refine ag_x ?_;simp [go_sem])|intro _|refine And.intro ?_ ?_|(apply hKK;clear hKK KK)));all_goals first|refine Hold.mk ?_|omega|with_reducible assumption|(simp only [InR] at *;omega)|skip))
  refine awp_frzbox 3 rfl rfl ?_
  simp only [go_sem]
  refine awp_seq_k fun K1 hK1 => ?_
  (refine awp_sr fun KK hKK => ?_; simp [go_sem]; ((repeat' (first|(refine ag_x ?_;simp [go_sem])|intro _|refine And.intro ?_ ?_|(apply hKK;clear hKK KK)));all_goals first|refine Hold.mk ?_|omega|with_reducible assumption|(simp only [InR] at *;omega)|skip))
  ((try refine CallT.toA ?_); refine callT_m (by first | exact .inl ⟨rfl, rfl⟩ | exact .inr rfl) (by simp [go_sem]) ?_; intro args ha; simp [go_sem] at ha; subst ha; refine ⟨_, (rvalid_spec _), ?_⟩; rintro _ rfl; simp [go_sem]; ((repeat' (first|(refine ag_x ?_;simp [go_sem])|intro _|refine And.intro ?_ ?_|(apply hKK;clear hKK KK)));all_goals first|refine Hold.mk ?_|omega|with_reducible assumption|(simp only [InR] at *;omega)|skip))
  (refine agc_f (dB (decide (0 ≤ fuel) && decide (fuel ≤ 10000))) (by first | exact .inl ⟨rfl, rfl⟩ | exact .inr rfl) ?_ rfl ?_; (intro hc args ha; simp [go_sem] at ha; subst ha; exact (in_spec _ _ _)); simp [go_sem]; ((repeat' (first|(refine ag_x ?_;simp [go_sem])|intro _|refine And.intro ?_ ?_|(apply hKK;clear hKK KK)));all_goals first|refine Hold.mk ?_|omega|with_reducible assumption|(simp only [InR] at *;omega)|skip))
  (refine awp_if fun T F hT hF => ?_; simp [go_sem]; refine BR.intro (fun h2 => hT ?_) (fun h2 => hF ?_); all_goals clear hT hF T F; try simp at h2) 
  · (refine awp_sr fun KK hKK => ?_; simp [go_sem]; ((repeat' (first|(refine ag_x ?_;simp [go_sem])|intro _|refine And.intro ?_ ?_|(apply hKK;clear hKK KK)));all_goals first|refine Hold.mk ?_|omega|with_reducible assumption|(simp only [InR] at *;omega)|skip))
    (refine awp_ret ?_; simp [go_sem])
    rcases h2 with (h | h) | h
    · simp [fitOk, h]
    · simp [fitOk, h]
    · have : (decide (0 ≤ fuel) && decide (fuel ≤ 10000)) = false := by
        rw [Bool.eq_false_iff]; simp; omega
      simp [fitOk, this]
  · refine awp_skip ?_
    refine hK1 _ ?_; clear hK1
    have hr := trOk_regs h2.1.1
    refine awp_seq_k fun K3 hK3 => ?_
    (refine awp_sr fun KK hKK => ?_; simp [go_sem]; ((repeat' (first|(refine ag_x ?_;simp [go_sem])|intro _|refine And.intro ?_ ?_|(apply hKK;clear hKK KK)));all_goals first|refine Hold.mk ?_|omega|with_reducible assumption|(simp only [InR] at *;omega)|skip))
    refine awp_block ?_
    refine awp_loop (σ := Nat) (fun k => ⟨[(1, dIs ws), (7, dI k)], []⟩) (fun k => k ≤ ws.length ∧ (ws.take k).all isW = true) (fun k => ws.length - k) 0 ?_ ?_ ?_
    · (refine cov_of ?_ ?_ <;> simp [go_sem])
    · simp
    rintro k ⟨hk, hall⟩
    refine awp_seq_k fun K4 hK4 => ?_
    (refine awp_sr fun KK hKK => ?_; simp [go_sem]; ((repeat' (first|(refine ag_x ?_;simp [go_sem])|intro _|refine And.intro ?_ ?_|(apply hKK;clear hKK KK)));all_goals first|refine Hold.mk ?_|omega|with_reducible assumption|(simp only [InR] at *;omega)|skip))
    (refine awp_if fun T F hT hF => ?_; simp [go_sem]; refine BR.intro (fun h5 => hT ?_) (fun h5 => hF ?_); all_goals clear hT hF T F; try simp at h5) 
    · refine awp_skip ?_
      refine hK4 _ ?_; clear hK4
      obtain ⟨x, hx⟩ : ∃ x, ws[k]? = some x := ⟨_, List.getElem?_eq_getElem (by omega)⟩
      refine awp_seq_k fun K6 hK6 => ?_
      refine awp_block ?_
      (refine awp_sr fun KK hKK => ?_; simp [go_sem, hx]; ((repeat' (first|(refine ag_x ?_;simp [go_sem, hx])|intro _|refine And.intro ?_ ?_|(apply hKK;clear hKK KK)));all_goals first|refine Hold.mk ?_|omega|with_reducible assumption|(simp only [InR] at *;omega)|skip))
      ((try refine CallT.toA ?_); refine callT_m (by first | exact .inl ⟨rfl, rfl⟩ | exact .inr rfl) (by simp [go_sem]) ?_; intro args ha; simp [go_sem] at ha; subst ha; refine ⟨_, (in_spec _ _ _), ?_⟩; rintro _ rfl; simp [go_sem]; ((repeat' (first|(refine ag_x ?_;simp [go_sem])|intro _|refine And.intro ?_ ?_|(apply hKK;clear hKK KK)));all_goals first|refine Hold.mk ?_|omega|with_reducible assumption|(simp only [InR] at *;omega)|skip))
      (refine awp_if fun T F hT hF => ?_; simp [go_sem]; refine BR.intro (fun h7 => hT ?_) (fun h7 => hF ?_); all_goals clear hT hF T F; try simp at h7) 
      · (refine awp_sr fun KK hKK => ?_; simp [go_sem]; ((repeat' (first|(refine ag_x ?_;simp [go_sem])|intro _|refine And.intro ?_ ?_|(apply hKK;clear hKK KK)));all_goals first|refine Hold.mk ?_|omega|with_reducible assumption|(simp only [InR] at *;omega)|skip))
        (refine awp_ret ?_; simp [go_sem])
        have := all_at hx (p := isW) (by simp [isW]; omega)
        simp [fitOk, this]
      · refine awp_skip ?_
        refine hK6 _ ?_; clear hK6
        (refine awp_r fun KK hKK => ?_; simp [go_sem]; ((repeat' (first|(refine ag_x ?_;simp [go_sem])|intro _|refine And.intro ?_ ?_|(apply hKK;clear hKK KK)));all_goals first|refine Hold.mk ?_|omega|with_reducible assumption|(simp only [InR] at *;omega)|skip))
        refine ⟨k + 1, ?_, ⟨by omega, take_all hall hx (by simp [isW]; omega)⟩, by omega⟩
        (refine cov_of ?_ ?_ <;> simp [go_sem])
    · refine awp_exit ?_
      simp only [go_sem]
      refine hK3 _ ?_; clear hK3
      have : k = ws.length := by omega
      subst this
      rw [List.take_length] at hall
      (refine awp_sr fun KK hKK => ?_; simp [go_sem]; ((repeat' (first|(refine ag_x ?_;simp [go_sem])|intro _|refine And.intro ?_ ?_|(apply hKK;clear hKK KK)));all_goals first|refine Hold.mk ?_|omega|with_reducible assumption|(simp only [InR] at *;omega)|skip))
      (refine awp_ret ?_; simp [go_sem])
      simp [fitOk, hall, h2]
end Go.Proofs.Ytmgbaegdkjcagaa

namespace Go.Proofs.Ytmgbaegdkjcagaa
open Go.Eng

/-- the code once: words, told, and by which exit it is left -/
def goCode : List Ins → List Int → List Int → List Int × List Int × Option Int
  | [], ws, told => (ws, told, none)
  | i :: is, ws, told =>
    let s := stepV i ws
    let told' := if s.2.1 && decide (told.length < 2000) then told ++ [s.1] else told
    if s.2.2.1 then (s.2.2.2, told', some i.x) else goCode is s.2.2.2 told'
def leave (t : Tr) (x : Int) (rounds : Int) (ws told : List Int) : Res :=
  match t.exits[x.toNat]? with
  | some e => ⟨x, e.back, rounds, pickW ws e.slots, told⟩
  | none => ⟨x, 0, rounds, [], told⟩
def goRounds (t : Tr) : Nat → Nat → List Int → List Int → Res
  | 0, r, ws, told => ⟨-1, -1, r, ws, told⟩
  | n + 1, r, ws, told =>
    match goCode t.code ws told with
    | (ws', told', some x) => leave t x (r + 1) ws' told'
    | (ws', told', none) => goRounds t n (r + 1) ws' told'
def runV (t : Tr) (ws : List Int) (fuel : Int) : Res := if fitOk t ws fuel then goRounds t fuel.toNat 0 ws [] else ⟨0, 0, 0, [], []⟩

/-- an instruction of a valid trace reads and writes registers that are there -/
theorem insOk_regs {regs nex : Int} {i : Ins} (h : insOk regs nex i = true) (hr : 1 ≤ regs) : 0 ≤ i.op ∧ i.op ≤ 10 ∧ (0 ≤ i.a ∧ i.a < regs) ∧ (0 ≤ i.b ∧ i.b < regs) ∧ (0 ≤ i.d ∧ i.d < regs) ∧ isW i.n = true := by
  rw [← insR_eq] at h
  simp only [insR, fldOk, Bool.and_eq_true, decide_eq_true_eq] at h
  obtain ⟨⟨h1, h2⟩, ⟨⟨⟨hd, ha⟩, hb⟩, hn⟩, hx⟩ := h
  refine ⟨h1, h2, ?_, ?_, ?_, ?_⟩
  · split at ha <;> simp at ha <;> omega
  · split at hb <;> simp at hb <;> omega
  · split at hd <;> simp at hd <;> omega
  · rw [isW_iff]
    split at hn
    · simp at hn; omega
    · simp at hn; omega
theorem insOk_exit {regs nex : Int} {i : Ins} (h : insOk regs nex i = true) (hx : (2 ≤ i.op ∧ i.op ≤ 6) ∨ i.op = 9) : 0 ≤ i.x ∧ i.x < nex := by
  rw [← insR_eq] at h
  simp only [insR, fldOk, Bool.and_eq_true, decide_eq_true_eq] at h
  obtain ⟨⟨h1, h2⟩, ⟨⟨⟨hd, ha⟩, hb⟩, hn⟩, hx'⟩ := h
  have : (flds i.op).contains 88 = true := by
    have hk : i.op = 2 ∨ i.op = 3 ∨ i.op = 4 ∨ i.op = 5 ∨ i.op = 6 ∨ i.op = 9 := by omega
    rcases hk with h | h | h | h | h | h <;> simp [flds, h]
  rw [if_pos this] at hx'
  simp at hx'
  omega
theorem val_word {op a b : Int} (ha : isW a = true) (hb : isW b = true) (h : (valR op a b).2 = true) : isW (valR op a b).1 = true := by
  unfold valR at h ⊢
  by_cases h2 : op = 2
  · simp [h2] at h ⊢; exact h
  by_cases h3 : op = 3
  · simp [h3] at h ⊢; exact h
  by_cases h4 : op = 4
  · simp [h4] at h ⊢; simp [prodV, h, mulOk_word h]
  by_cases h5 : op = 5 ∨ op = 6
  · simp only [h2, h3, h4, h5, if_true, if_false] at h ⊢
    by_cases hb0 : b = 0
    · simp [hb0] at h
    · have := floor_bounds hb0 ha hb
      by_cases h6 : op = 6
      · simp [hb0, h6, isW_iff]; omega
      · simp [hb0, h6] at h ⊢; exact h
  have w01 : ∀ c : Prop, ∀ _ : Decidable c, isW (if c then 1 else 0) = true := fun c _ => by split <;> decide
  by_cases h7 : op = 7
  · simp [h7, w01]
  by_cases h8 : op = 8
  · simp [h8, w01]
  · simp [h2, h3, h4, h5, h7, h8]; decide
theorem step_words {i : Ins} {ws : List Int} {regs nex : Int} (h : insOk regs nex i = true) (hr : 1 ≤ regs) (hl : (ws.length : Int) = regs) (hw : ∀ x ∈ ws, isW x = true) :
    (stepV i ws).2.2.2.length = ws.length ∧ ∀ x ∈ (stepV i ws).2.2.2, isW x = true := by
  obtain ⟨_, _, ha, hb, hd, hn⟩ := insOk_regs h hr
  have get : ∀ a : Int, 0 ≤ a → a < regs → isW (wAt ws a) = true := fun a h1 h2 => by
    have hlt : a.toNat < ws.length := by omega
    have : wAt ws a = ws[a.toNat] := by simp [wAt, List.getD, List.getElem?_eq_getElem hlt]
    rw [this]
    exact hw _ (List.getElem_mem hlt)
  have setW : ∀ v, isW v = true → ∀ x ∈ ws.set i.d.toNat v, isW x = true := fun v hv x hx => by
    rcases List.mem_or_eq_of_mem_set hx with h | h
    · exact hw x h
    · rw [h]; exact hv
  unfold stepV
  repeat' split
  · exact ⟨by simp, setW _ hn⟩
  · exact ⟨by simp, setW _ (get _ ha.1 ha.2)⟩
  · exact ⟨rfl, hw⟩
  · exact ⟨rfl, hw⟩
  · rename_i hv
    exact ⟨by simp, setW _ (val_word (get _ ha.1 ha.2) (get _ hb.1 hb.2) hv)⟩
  · exact ⟨rfl, hw⟩
end Go.Proofs.Ytmgbaegdkjcagaa
