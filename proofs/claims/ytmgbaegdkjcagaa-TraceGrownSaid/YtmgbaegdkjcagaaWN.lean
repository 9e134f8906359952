/- Part of a proof: see the last text. -/
import Derived.Test.YtmgbaegdkjcagaaWL
import Derived.Test.YtmgbaegdkjcagaaWM
import Derived.Test.YtmgbaegdkjcagaaWE
import Derived.Test.YtmgbaegdkjcagaaWF
set_option linter.unusedVariables false
set_option linter.unusedSimpArgs false
namespace Go.Proofs.Ytmgbaegdkjcagaa
open Go.Eng
set_option linter.unusedSimpArgs false
set_option linter.unusedVariables false

theorem rowA_last (t : Tr) : rowA t t.code (lastV t []) = lastV t [] := by
  have := lastV_fix t []
  rwa [orL_nil] at this
theorem deadFrom_ge (t : Tr) (l : List Bool) : ∀ (is : List Ins) (k j : Nat), j ∈ deadFrom t l is k → k ≤ j ∧ j < k + is.length
  | [], k, j, h => by cases h
  | i :: is, k, j, h => by
    have ih := deadFrom_ge t l is (k + 1) j
    simp only [deadFrom] at h
    simp only [List.length_cons]
    split at h
    · rcases List.mem_cons.1 h with e | e
      · omega
      · have := ih e; omega
    · have := ih h; omega
/-- a code without one instruction that is dead -/
theorem thin_one (t : Tr) (l : List Bool) : ∀ (is : List Ins) (k0 k : Nat), k ∈ deadFrom t l is k0 → Thin t l is (is.take (k - k0) ++ is.drop (k - k0 + 1))
  | [], k0, k, h => by cases h
  | i :: is, k0, k, h => by
    have hge := deadFrom_ge t l (i :: is) k0 k h
    by_cases hk : k = k0
    · subst hk
      simp only [deadFrom] at h
      split at h
      · rename_i hd
        simpa using Thin.drop i (Thin.refl t l is) hd
      · have := deadFrom_ge t l is (k + 1) k h; omega
    · have h' : k ∈ deadFrom t l is (k0 + 1) := by
        simp only [deadFrom] at h
        split at h
        · rcases List.mem_cons.1 h with e | e
          · exact absurd e hk
          · exact e
        · exact h
      have ih := thin_one t l is (k0 + 1) k h'
      rw [show k - k0 = (k - (k0 + 1)) + 1 by omega]
      simpa using Thin.keep i ih
theorem thin_ok {t p : Tr} {l : List Bool} (hok : trOk t = true) (hrg : p.regs = t.regs) (hex : p.exits = t.exits) (hth : Thin t l t.code p.code) : trOk p = true := by
  have h1 := hth.len
  have h2 := hth.mem
  simp only [trOk, Bool.and_eq_true, decide_eq_true_eq, List.all_eq_true, hrg, hex] at hok ⊢
  obtain ⟨⟨⟨⟨⟨a1, a2⟩, a3⟩, a4⟩, a5⟩, a6⟩ := hok
  exact ⟨⟨⟨⟨⟨a1, a2⟩, by omega⟩, a4⟩, fun i hi => a5 i (h2 i hi)⟩, a6⟩
theorem fit_same {t p : Tr} {ws : List Int} {n : Int} (hpk : trOk p = true) (hrg : p.regs = t.regs) (h : fitOk t ws n = true) : fitOk p ws n = true := by
  simp only [fitOk, Bool.and_eq_true, decide_eq_true_eq, hrg, hpk, true_and] at h ⊢
  exact ⟨⟨h.1.1.2, h.1.2⟩, h.2⟩
/-- where no fuel is left all words are told -/
theorem goRounds_slots {t : Tr} (hok : trOk t = true) : ∀ (n r : Nat) (ws told : List Int), (ws.length : Int) = t.regs → (goRounds t n r ws told).exit < 0 → ((goRounds t n r ws told).slots.length : Int) = t.regs
  | 0, r, ws, told, hw, _ => hw
  | n + 1, r, ws, told, hw, h => by
    obtain ⟨hr1, hr2, _, _⟩ := trOk_regs hok
    have hl : ((lastV t []).length : Int) = t.regs := by rw [lastV_len]; omega
    obtain ⟨_, _, e3, _, e5⟩ := goCode_agree hr1 (slotsOk_of hok) hl (Thin.refl t (lastV t []) t.code) ws ws told (insOk_mem hok) hw (Agree.refl _ _)
    simp only [goRounds] at h ⊢
    generalize goCode t.code ws told = q at e3 e5 h
    obtain ⟨w1, t1, x1⟩ := q
    cases x1 with
    | none => exact goRounds_slots hok n (r + 1) w1 t1 (by simp only at e3; omega) h
    | some x =>
      obtain ⟨p1, p2, _⟩ := e5 x rfl
      simp only [(leave_told t x (r + 1) w1 t1).2.2] at h
      omega
theorem runV_slots {t : Tr} {ws : List Int} {n : Int} (h : fitOk t ws n = true) (hx : (runV t ws n).exit < 0) : ((runV t ws n).slots.length : Int) = t.regs := by
  have h' := h
  simp only [fitOk, Bool.and_eq_true, decide_eq_true_eq] at h'
  unfold runV at hx ⊢
  rw [if_pos h] at hx ⊢
  exact goRounds_slots h'.1.1.1 _ _ _ _ h'.1.1.2 hx
/-- a trace without one of its dead instructions -/
def cutTr (t : Tr) (k : Nat) : Tr := ⟨t.regs, t.code.take k ++ t.code.drop (k + 1), t.exits⟩
theorem cut_thin {t : Tr} {keep : List Bool} {k : Nat} (h : k ∈ deadV t keep) : Thin t (lastV t keep) t.code (cutTr t k).code := by
  have := thin_one t (lastV t keep) t.code 0 k h
  simpa [cutTr] using this
theorem deadV_lt {t : Tr} {keep : List Bool} {k : Nat} (h : k ∈ deadV t keep) : k < t.code.length := by
  have := deadFrom_ge t (lastV t keep) t.code 0 k h
  omega

theorem mem_markFrom : ∀ (l : List Bool) (k : Nat) (m : Int), m ∈ markFrom l k ↔ ∃ j : Nat, m = ((k + j : Nat) : Int) ∧ l[j]? = some true
  | [], k, m => by simp [markFrom]
  | b :: l, k, m => by
    simp only [markFrom, List.mem_append, mem_markFrom l (k + 1) m]
    constructor
    · rintro (h | ⟨j, h1, h2⟩)
      · cases b
        · simp at h
        · simp at h; exact ⟨0, by simpa using h, rfl⟩
      · exact ⟨j + 1, by rw [h1]; congr 1; omega, by simpa using h2⟩
    · rintro ⟨j, h1, h2⟩
      match j, h2 with
      | 0, h2 => simp at h2; subst h2; left; simpa using h1
      | j + 1, h2 => right; exact ⟨j, by rw [h1]; congr 1; omega, by simpa using h2⟩
theorem mem_markV {l : List Bool} {m : Int} : m ∈ markV l ↔ ∃ j : Nat, m = (j : Int) ∧ l[j]? = some true := by
  unfold markV
  rw [mem_markFrom]
  simp
theorem markV_contains (l : List Bool) (r : Nat) : (markV l).contains (r : Int) = l.getD r false := by
  rw [Bool.eq_iff_iff, List.contains_iff_mem, mem_markV]
  constructor
  · rintro ⟨j, h1, h2⟩
    have : r = j := by omega
    subst this
    simp [List.getD_eq_getElem?_getD, h2]
  · intro h
    refine ⟨r, rfl, ?_⟩
    rw [List.getD_eq_getElem?_getD] at h
    cases hl : l[r]? with
    | none => rw [hl] at h; cases h
    | some b => rw [hl] at h; simp at h; rw [h]
/-- words, the first k of which are changed where they are not live -/
def chgV (L : List Bool) (ws : List Int) (c : Int) (k : Nat) : List Int := (List.range ws.length).map fun r => if r < k ∧ L.getD r false = false then c else ws.getD r 0
theorem chgV_len (L : List Bool) (ws : List Int) (c : Int) (k : Nat) : (chgV L ws c k).length = ws.length := by simp [chgV]
theorem chgV_get (L : List Bool) (ws : List Int) (c : Int) (k r : Nat) (h : r < ws.length) : (chgV L ws c k)[r]? = some (if r < k ∧ L.getD r false = false then c else ws.getD r 0) := by
  unfold chgV
  rw [List.getElem?_map, List.getElem?_range h]; rfl
theorem chgV_zero (L : List Bool) (ws : List Int) (c : Int) : chgV L ws c 0 = ws := by
  apply List.ext_getElem?
  intro r
  by_cases h : r < ws.length
  · rw [chgV_get _ _ _ _ _ h]; simp [List.getD_eq_getElem?_getD, h]
  · rw [List.getElem?_eq_none (by rw [chgV_len]; omega), List.getElem?_eq_none (by omega)]
theorem chgV_step {L : List Bool} {ws : List Int} {c : Int} {k : Nat} (h : k < ws.length) : chgV L ws c (k + 1) = if L.getD k false = false then (chgV L ws c k).set k c else chgV L ws c k := by
  apply List.ext_getElem?
  intro r
  by_cases hr : r < ws.length
  · rw [chgV_get _ _ _ _ _ hr]
    by_cases hl : L.getD k false = false
    · rw [if_pos hl]
      rw [List.getElem?_set, chgV_len, chgV_get _ _ _ _ _ hr]
      by_cases hk : k = r
      · subst hk; rw [if_pos rfl, if_pos hr, if_pos ⟨by omega, hl⟩]
      · rw [if_neg hk]
        by_cases h1 : r < k
        · simp [h1, show r < k + 1 by omega]
        · simp [h1, show ¬ r < k + 1 by omega]
    · rw [if_neg hl]
      rw [chgV_get _ _ _ _ _ hr]
      by_cases hk : k = r
      · subst hk; rw [if_neg (fun h => hl h.2), if_neg (fun h => hl h.2)]
      · by_cases h1 : r < k
        · simp [h1, show r < k + 1 by omega]
        · simp [h1, show ¬ r < k + 1 by omega]
  · rw [List.getElem?_eq_none (by rw [chgV_len]; omega)]
    split <;> rw [List.getElem?_eq_none (by simp [chgV_len]; omega)]
theorem chgV_agree {L : List Bool} {ws : List Int} {c : Int} {k : Nat} : Agree L (chgV L ws c k) ws := by
  refine ⟨(chgV_len _ _ _ _).symm, fun m hm hl => ?_⟩
  rw [chgV_len] at hm
  rw [List.getD_eq_getElem?_getD, chgV_get _ _ _ _ _ hm, hl]
  simp
theorem chgV_words {L : List Bool} {ws : List Int} {c : Int} {k : Nat} (h : ws.all isW = true) (hc : isW c = true) : (chgV L ws c k).all isW = true := by
  rw [List.all_eq_true] at h ⊢
  intro x hx
  simp only [chgV, List.mem_map, List.mem_range] at hx
  obtain ⟨r, hr, rfl⟩ := hx
  split
  · exact hc
  · refine h _ ?_
    rw [List.getD_eq_getElem?_getD, List.getElem?_eq_getElem hr]
    exact List.getElem_mem hr
end Go.Proofs.Ytmgbaegdkjcagaa

namespace Go.Proofs.Ytmgbaegdkjcagaa
open Go.Eng
set_option maxRecDepth 20000
set_option linter.unusedSimpArgs false
set_option linter.unusedVariables false
attribute [local irreducible] AG CallA CallT AWp PCall ACall AgC

/-- is a number among the first of a list -/
def hasUp (l : List Int) (r : Int) (i : Nat) : Bool := (l.take i).contains r
theorem hasUp_zero (l : List Int) (r : Int) : hasUp l r 0 = false := by simp [hasUp]
theorem hasUp_all (l : List Int) (r : Int) : hasUp l r l.length = l.contains r := by simp [hasUp]
theorem hasUp_step {l : List Int} {i : Nat} {v : Int} (h : l[i]? = some v) (r : Int) : hasUp l r (i + 1) = (hasUp l r i || decide (v = r)) := by
  unfold hasUp
  rw [List.take_add_one, h, Bool.eq_iff_iff]
  simp only [Option.toList_some, List.contains_iff_mem, List.mem_append, List.mem_singleton, Bool.or_eq_true, decide_eq_true_eq]
  constructor
  · rintro (h | h)
    · exact .inl h
    · exact .inr h.symm
  · rintro (h | h)
    · exact .inl h
    · exact .inr h.symm
theorem liveV_at0 (t : Tr) : (liveV t)[0]? = some (markV (lastV t [])) := by
  unfold liveV rowsV
  rw [List.getElem?_map, rowsL_at t _ 0 (by omega), List.drop_zero, rowA_last]
  rfl

set_option maxHeartbeats 8000000 in
theorem alike_spec (o : Tr) (r s : Res) (hok : trOk o = true) (hA : AlikeR (lastV o []) s r) (hsl : s.exit < 0 → (s.slots.length : Int) = o.regs) : PCall Try.prog 31 [dTr o, dRes r, dRes s] fun d => d = dB true := by 
  obtain ⟨hr1, hr2, hcl, hel⟩ := trOk_regs hok
  obtain ⟨a1, a2, a3, a4, a5⟩ := hA
  have hL := lastV_len o []
  have h0 := liveV_at0 o
  have hmk := fun m => mem_markV (l := lastV o []) (m := m)
  have hml : (markV (lastV o [])).length ≤ 20 := by have := markFrom_len (lastV o []) 0; unfold markV; omega
  generalize lastV o [] = L at hL h0 hmk hml a5
  generalize markV L = M at h0 hmk hml
  refine pcall_of Try.func31 rfl rfl Try.ntmps31 (rs := [.tmp 6]) (tys := [4]) rfl rfl (by simp) ?_
  (refine awp_sr fun KK hKK => ?_; simp [go_sem]; ((repeat' (first|(refine ag_x ?_;simp [go_sem])|intro _|refine And.intro ?_ ?_|(apply hKK;clear hKK KK)));all_goals first|refine Hold.mk ?_|omega|with_reducible assumption|(simp only [InR] at *;omega)|skip))
  refine awp_frzbox 3 rfl rfl ?_
  refine awp_frzbox 4 rfl rfl ?_
  refine awp_frzbox 5 rfl rfl ?_
  simp only [go_sem]
  refine awp_seq_k fun K1 hK1 => ?_
  (refine awp_sr fun KK hKK => ?_; simp [go_sem]; ((repeat' (first|(refine ag_x ?_;simp [go_sem])|intro _|refine And.intro ?_ ?_|(apply hKK;clear hKK KK)));all_goals first|refine Hold.mk ?_|omega|with_reducible assumption|(simp only [InR] at *;omega)|skip))
  (refine awp_if fun T F hT hF => ?_; simp [go_sem]; refine BR.intro (fun h2 => hT ?_) (fun h2 => hF ?_); all_goals clear hT hF T F; try simp at h2) 
  · have hrs : r = s := by
      rcases a5 with ⟨p, q⟩ | ⟨p, q⟩
      · cases r; cases s; simp only at a1 a2 a3 a4 q; simp [a1, a2, a3, a4, q]
      · omega
    subst hrs
    (refine awp_sr fun KK hKK => ?_; simp [go_sem]; ((repeat' (first|(refine ag_x ?_;simp [go_sem])|intro _|refine And.intro ?_ ?_|(apply hKK;clear hKK KK)));all_goals first|refine Hold.mk ?_|omega|with_reducible assumption|(simp only [InR] at *;omega)|skip))
    ((try refine CallT.toA ?_); refine callT_m (by first | exact .inl ⟨rfl, rfl⟩ | exact .inr rfl) (by simp [go_sem]) ?_; intro args ha; simp [go_sem] at ha; subst ha; refine ⟨_, (by have h := same_spec r r; simpa using h), ?_⟩; rintro _ rfl; simp [go_sem]; ((repeat' (first|(refine ag_x ?_;simp [go_sem])|intro _|refine And.intro ?_ ?_|(apply hKK;clear hKK KK)));all_goals first|refine Hold.mk ?_|omega|with_reducible assumption|(simp only [InR] at *;omega)|skip))
    (refine awp_ret ?_; simp [go_sem])
  · refine awp_skip ?_
    refine hK1 _ ?_; clear hK1
    obtain ⟨hneg, hag⟩ : s.exit < 0 ∧ Agree L s.slots r.slots := by
      rcases a5 with ⟨p, q⟩ | h
      · omega
      · exact h
    have hsl := hsl hneg
    have hlen := hag.1
    refine awp_seq_k fun K3 hK3 => ?_
    (refine awp_sr fun KK hKK => ?_; simp [go_sem, a1, a2, a3, a4, hlen]; ((repeat' (first|(refine ag_x ?_;simp [go_sem, a1, a2, a3, a4, hlen])|intro _|refine And.intro ?_ ?_|(apply hKK;clear hKK KK)));all_goals first|refine Hold.mk ?_|omega|with_reducible assumption|(simp only [InR] at *;omega)|skip))
    (refine agc_f (dB (decide (s.told = s.told))) (by first | exact .inl ⟨rfl, rfl⟩ | exact .inr rfl) ?_ rfl ?_; (intro hc args ha; simp [go_sem] at ha; subst ha; exact (ints_spec s.told s.told)); simp [go_sem, hlen]; ((repeat' (first|(refine ag_x ?_;simp [go_sem, hlen])|intro _|refine And.intro ?_ ?_|(apply hKK;clear hKK KK)));all_goals first|refine Hold.mk ?_|omega|with_reducible assumption|(simp only [InR] at *;omega)|skip))
    (refine awp_if fun T F hT hF => ?_; simp [go_sem]; refine hF ?_; clear hT hF T F)
    refine awp_skip ?_
    refine hK3 _ ?_; clear hK3
    (refine awp_sr fun KK hKK => ?_; simp [go_sem]; ((repeat' (first|(refine ag_x ?_;simp [go_sem])|intro _|refine And.intro ?_ ?_|(apply hKK;clear hKK KK)));all_goals first|refine Hold.mk ?_|omega|with_reducible assumption|(simp only [InR] at *;omega)|skip))
    ((try refine CallT.toA ?_); refine callT_m (by first | exact .inl ⟨rfl, rfl⟩ | exact .inr rfl) (by simp [go_sem]) ?_; intro args ha; simp [go_sem] at ha; subst ha; refine ⟨_, (rliveT_spec o), ?_⟩; rintro _ rfl; simp [go_sem, hok]; ((repeat' (first|(refine ag_x ?_;simp [go_sem, hok])|intro _|refine And.intro ?_ ?_|(apply hKK;clear hKK KK)));all_goals first|refine Hold.mk ?_|omega|with_reducible assumption|(simp only [InR] at *;omega)|skip))
    refine awp_seq_k fun K5 hK5 => ?_
    (refine awp_sr fun KK hKK => ?_; simp [go_sem]; ((repeat' (first|(refine ag_x ?_;simp [go_sem])|intro _|refine And.intro ?_ ?_|(apply hKK;clear hKK KK)));all_goals first|refine Hold.mk ?_|omega|with_reducible assumption|(simp only [InR] at *;omega)|skip))
    (refine awp_if fun T F hT hF => ?_; simp [go_sem]; refine hF ?_; clear hT hF T F)
    refine awp_skip ?_
    refine hK5 _ ?_; clear hK5
    refine awp_seq_k fun K7 hK7 => ?_
    (refine awp_sr fun KK hKK => ?_; simp [go_sem]; ((repeat' (first|(refine ag_x ?_;simp [go_sem])|intro _|refine And.intro ?_ ?_|(apply hKK;clear hKK KK)));all_goals first|refine Hold.mk ?_|omega|with_reducible assumption|(simp only [InR] at *;omega)|skip))
    refine awp_block ?_
    refine awp_loop (σ := Nat) (fun x => ⟨[(4, .rd [dI r.exit, dI r.back, dI r.rounds, dIs r.slots, dIs r.told]), (5, .rd [dI s.exit, dI s.back, dI s.rounds, dIs s.slots, dIs s.told]), (7, dIss (liveV o)), (9, dI x)], []⟩) (fun x => x ≤ M.length) (fun x => M.length - x) 0 ?_ ?_ ?_
    · (refine cov_of ?_ ?_ <;> simp [go_sem, a1, a2, a3, a4])
    · simp
    intro x hx
    refine awp_seq_k fun K8 hK8 => ?_
    (refine awp_sr fun KK hKK => ?_; simp [go_sem, h0]; ((repeat' (first|(refine ag_x ?_;simp [go_sem, h0])|intro _|refine And.intro ?_ ?_|(apply hKK;clear hKK KK)));all_goals first|refine Hold.mk ?_|omega|with_reducible assumption|(simp only [InR] at *;omega)|skip))
    (refine awp_if fun T F hT hF => ?_; simp [go_sem]; refine BR.intro (fun h9 => hT ?_) (fun h9 => hF ?_); all_goals clear hT hF T F; try simp at h9) 
    · refine awp_skip ?_
      refine hK8 _ ?_; clear hK8
      obtain ⟨v, hv⟩ : ∃ v, M[x]? = some v := ⟨_, List.getElem?_eq_getElem (by omega)⟩
      obtain ⟨j, rfl, hj⟩ := (hmk v).1 (List.mem_of_getElem? hv)
      have hjl := (List.getElem?_eq_some_iff.1 hj).1
      have heq := hag.2 j (by omega) (by rw [List.getD_eq_getElem?_getD, hj]; rfl)
      obtain ⟨y, hy⟩ : ∃ y, s.slots[j]? = some y := ⟨_, List.getElem?_eq_getElem (by omega)⟩
      obtain ⟨z, hz⟩ : ∃ y, r.slots[j]? = some y := ⟨_, List.getElem?_eq_getElem (by omega)⟩
      have : y = z := by simpa [List.getD_eq_getElem?_getD, hy, hz] using heq
      subst this
      refine awp_seq_k fun K10 hK10 => ?_
      refine awp_block ?_
      ((refine awp_dr (.qs [0, 2, 3, 5, 10, 12, 13, 15, 1, 4, 6, 7, 8, 9, 11, 14, 16, 17, 18, 19, 20] (.nil)) (by kernel_rfl) ?_ ?_ ?_ ?_); (kernel_rfl); (exact (by decide +kernel)); (kernel_rfl); intro KK hKK; ((repeat' (first|(refine ag_x ?_;simp [go_sem, h0, hv, hy, hz])|refine adr_nil ?_|refine adr_two ?_ ?_|refine adr_kp2 ?_ ?_|((first|refine adr_qs fun KK hKK=>?_|refine adr_y fun KK hKK=>?_);simp [go_sem, h0, hv, hy, hz])|intro _|refine And.intro ?_ ?_|(apply hKK;clear hKK KK)));all_goals first|refine Hold.mk ?_|omega|with_reducible assumption|(simp only [InR] at *;omega)|skip))
      (refine awp_if fun T F hT hF => ?_; simp [go_sem]; refine hF ?_; clear hT hF T F)
      refine awp_skip ?_
      simp only [go_sem]
      refine hK10 _ ?_; clear hK10
      (refine awp_r fun KK hKK => ?_; simp [go_sem]; ((repeat' (first|(refine ag_x ?_;simp [go_sem])|intro _|refine And.intro ?_ ?_|(apply hKK;clear hKK KK)));all_goals first|refine Hold.mk ?_|omega|with_reducible assumption|(simp only [InR] at *;omega)|skip))
      refine ⟨x + 1, ?_, by omega, by omega⟩
      (refine cov_of ?_ ?_ <;> simp [go_sem])
    · refine awp_exit ?_
      simp only [go_sem]
      refine hK7 _ ?_; clear hK7
      (refine awp_sr fun KK hKK => ?_; simp [go_sem]; ((repeat' (first|(refine ag_x ?_;simp [go_sem])|intro _|refine And.intro ?_ ?_|(apply hKK;clear hKK KK)));all_goals first|refine Hold.mk ?_|omega|with_reducible assumption|(simp only [InR] at *;omega)|skip))
      (refine awp_ret ?_; simp [go_sem])

set_option maxHeartbeats 8000000 in
theorem traceDead_spec (l : List Int) (fuel which : Int) : PCall Try.prog 8 [dIs l, dI fuel, dI which] fun r => r = dB true := by 
  refine pcall_of Try.func8 rfl rfl Try.ntmps8 (rs := [.tmp 6]) (tys := [4]) rfl rfl (by simp) ?_
  have hn := umod_bounds fuel (show (0 : Int) < 200 by decide)
  have en : (IntKind.u64.wrap fuel).tmod 200 = umod fuel 200 := rfl
  generalize umod fuel 200 = n at hn en
  (refine awp_sr fun KK hKK => ?_; simp [go_sem]; ((repeat' (first|(refine ag_x ?_;simp [go_sem])|intro _|refine And.intro ?_ ?_|(apply hKK;clear hKK KK)));all_goals first|refine Hold.mk ?_|omega|with_reducible assumption|(simp only [InR] at *;omega)|skip))
  (refine awp_sr fun KK hKK => ?_; simp [go_sem]; ((repeat' (first|(refine ag_x ?_;simp [go_sem])|intro _|refine And.intro ?_ ?_|(apply hKK;clear hKK KK)));all_goals first|refine Hold.mk ?_|omega|with_reducible assumption|(simp only [InR] at *;omega)|skip))
  ((try refine CallT.toA ?_); refine callT_m (by first | exact .inl ⟨rfl, rfl⟩ | exact .inr rfl) (by simp [go_sem]) ?_; intro args ha; simp [go_sem] at ha; subst ha; refine ⟨_, (grown_spec l), ?_⟩; rintro _ ⟨t, ws, hF, rfl⟩; simp [go_sem]; ((repeat' (first|(refine ag_x ?_;simp [go_sem])|intro _|refine And.intro ?_ ?_|(apply hKK;clear hKK KK)));all_goals first|refine Hold.mk ?_|omega|with_reducible assumption|(simp only [InR] at *;omega)|skip))
  rename_i go
  refine awp_frzbox 7 rfl rfl ?_
  simp only [go_sem]
  obtain ⟨b1, b2, b3, b4⟩ := hF.bounds
  have hok := hF.ok
  have hreg := trOk_regs hok
  have hc25 := hF.code
  have hfn := hF.fit (n := n) (by omega) (by omega)
  (refine awp_sr fun KK hKK => ?_; simp [go_sem]; ((repeat' (first|(refine ag_x ?_;simp [go_sem])|intro _|refine And.intro ?_ ?_|(apply hKK;clear hKK KK)));all_goals first|refine Hold.mk ?_|omega|with_reducible assumption|(simp only [InR] at *;omega)|skip))
  ((try refine CallT.toA ?_); refine callT_m (by first | exact .inl ⟨rfl, rfl⟩ | exact .inr rfl) (by simp [go_sem]) ?_; intro args ha; simp [go_sem] at ha; subst ha; refine ⟨_, (back_spec t b1 b2 b3), ?_⟩; rintro _ rfl; simp [go_sem]; ((repeat' (first|(refine ag_x ?_;simp [go_sem])|intro _|refine And.intro ?_ ?_|(apply hKK;clear hKK KK)));all_goals first|refine Hold.mk ?_|omega|with_reducible assumption|(simp only [InR] at *;omega)|skip))
  ((try refine CallT.toA ?_); refine callT_m (by first | exact .inl ⟨rfl, rfl⟩ | exact .inr rfl) (by simp [go_sem]) ?_; intro args ha; simp [go_sem] at ha; subst ha; refine ⟨_, (deadT_spec t), ?_⟩; rintro _ rfl; simp [go_sem, hok]; ((repeat' (first|(refine ag_x ?_;simp [go_sem, hok])|intro _|refine And.intro ?_ ?_|(apply hKK;clear hKK KK)));all_goals first|refine Hold.mk ?_|omega|with_reducible assumption|(simp only [InR] at *;omega)|skip))
  refine awp_seq_k fun K1 hK1 => ?_
  (refine awp_sr fun KK hKK => ?_; simp [go_sem]; ((repeat' (first|(refine ag_x ?_;simp [go_sem])|intro _|refine And.intro ?_ ?_|(apply hKK;clear hKK KK)));all_goals first|refine Hold.mk ?_|omega|with_reducible assumption|(simp only [InR] at *;omega)|skip))
  (refine awp_if fun T F hT hF => ?_; simp [go_sem]; refine hF ?_; clear hT hF T F)
  refine awp_skip ?_
  refine hK1 _ ?_; clear hK1
  refine awp_seq_k fun K3 hK3 => ?_
  have hnl : (nI (deadV t [])).length = (deadV t []).length := by simp [nI]
  (refine awp_sr fun KK hKK => ?_; simp [go_sem]; ((repeat' (first|(refine ag_x ?_;simp [go_sem])|intro _|refine And.intro ?_ ?_|(apply hKK;clear hKK KK)));all_goals first|refine Hold.mk ?_|omega|with_reducible assumption|(simp only [InR] at *;omega)|skip))
  (refine awp_if fun T F hT hF => ?_; simp [go_sem]; refine BR.intro (fun h4 => hT ?_) (fun h4 => hF ?_); all_goals clear hT hF T F; try simp at h4)
  · (refine awp_sr fun KK hKK => ?_; simp [go_sem]; ((repeat' (first|(refine ag_x ?_;simp [go_sem])|intro _|refine And.intro ?_ ?_|(apply hKK;clear hKK KK)));all_goals first|refine Hold.mk ?_|omega|with_reducible assumption|(simp only [InR] at *;omega)|skip))
    ((try refine CallT.toA ?_); refine callT_f (by first | exact .inl ⟨rfl, rfl⟩ | exact .inr rfl) ?_; intro args ha; simp [go_sem] at ha; subst ha; refine ⟨_, sane_spec, ?_⟩; rintro _ rfl; refine ⟨rfl, ?_⟩; simp [go_sem]; ((repeat' (first|(refine ag_x ?_;simp [go_sem])|intro _|refine And.intro ?_ ?_|(apply hKK;clear hKK KK)));all_goals first|refine Hold.mk ?_|omega|with_reducible assumption|(simp only [InR] at *;omega)|skip))
    (refine awp_ret ?_; simp [go_sem])
  refine awp_skip ?_
  refine hK3 _ ?_; clear hK3
  have hpos : 0 < (deadV t []).length := by
    rcases Nat.eq_zero_or_pos (deadV t []).length with h | h
    · exact absurd (List.eq_nil_of_length_eq_zero (hnl.trans h)) h4
    · exact h
  have hle : (deadV t []).length ≤ 60 := by
    have := deadFrom_len t (lastV t []) t.code 0
    unfold deadV
    omega
  have hwl : IntKind.u64.wrap ((deadV t []).length : Int) = (deadV t []).length := u64_wrap_id (by omega) (by omega)
  have hq : 0 ≤ (IntKind.u64.wrap which).tmod (deadV t []).length ∧ (IntKind.u64.wrap which).tmod (deadV t []).length < (deadV t []).length := ⟨Int.tmod_nonneg _ (u64_wrap_bounds _).1, Int.tmod_lt_of_pos _ (by omega)⟩
  generalize hqd : (IntKind.u64.wrap which).tmod (deadV t []).length = q at hq
  obtain ⟨kn, hkn⟩ : ∃ k, (deadV t [])[q.toNat]? = some k := ⟨_, List.getElem?_eq_getElem (by omega)⟩
  have hkI : (nI (deadV t []))[q.toNat]? = some (kn : Int) := by simp [nI, hkn]
  have hmem : kn ∈ deadV t [] := List.mem_of_getElem? hkn
  have hknl := deadV_lt hmem
  have hth := cut_thin hmem
  have hwne : ¬ ((deadV t []).length : Int) = 0 := by omega
  have hne : ¬ deadV t [] = [] := fun h => by rw [h] at hpos; simp at hpos
  (refine awp_sr fun KK hKK => ?_; simp [go_sem, hnl, hwl, hne, hqd, hkI]; ((repeat' (first|(refine ag_x ?_;simp [go_sem, hnl, hwl, hne, hqd, hkI])|intro _|refine And.intro ?_ ?_|(apply hKK;clear hKK KK)));all_goals first|refine Hold.mk ?_|omega|with_reducible assumption|(simp only [InR] at *;omega)|skip))
  refine awp_seq_k fun K5 hK5 => ?_
  (refine awp_sr fun KK hKK => ?_; simp [go_sem]; ((repeat' (first|(refine ag_x ?_;simp [go_sem])|intro _|refine And.intro ?_ ?_|(apply hKK;clear hKK KK)));all_goals first|refine Hold.mk ?_|omega|with_reducible assumption|(simp only [InR] at *;omega)|skip))
  (refine awp_if fun T F hT hF => ?_; simp [go_sem, show ¬ (kn : Int) < 0 by omega, show ¬ t.code.length ≤ kn by omega]; refine hF ?_; clear hT hF T F)
  refine awp_skip ?_
  refine hK5 _ ?_; clear hK5
  (refine awp_sr fun KK hKK => ?_; simp [go_sem]; ((repeat' (first|(refine ag_x ?_;simp [go_sem])|intro _|refine And.intro ?_ ?_|(apply hKK;clear hKK KK)));all_goals first|refine Hold.mk ?_|omega|with_reducible assumption|(simp only [InR] at *;omega)|skip))
  ((try refine CallT.toA ?_); refine callT_m (by first | exact .inl ⟨rfl, rfl⟩ | exact .inr rfl) (by simp [go_sem]) ?_; intro args ha; simp [go_sem] at ha; subst ha; refine ⟨_, (own_spec t b1 b2 b3), ?_⟩; rintro _ rfl; simp [go_sem]; ((repeat' (first|(refine ag_x ?_;simp [go_sem])|intro _|refine And.intro ?_ ?_|(apply hKK;clear hKK KK)));all_goals first|refine Hold.mk ?_|omega|with_reducible assumption|(simp only [InR] at *;omega)|skip))
  rename_i gp
  have htk : (t.code.take kn).length ≤ 25 := by simp; omega
  have hdk : (t.code.drop (kn + 1)).length ≤ 25 := by simp; omega
  have ek1 : ((kn : Int) + 1).toNat = kn + 1 := by omega
  have hcut : t.code.take kn ++ t.code.drop (kn + 1) = (cutTr t kn).code := rfl
  ((refine awp_dr (.qs [1, 3, 6, 8, 9, 2, 4, 7, 10] (.kp 0 (.kp 5 (.one 11 (.qs [12] (.one 13 (.nil))))))) (by kernel_rfl) ?_ ?_ ?_ ?_); (kernel_rfl); (exact (by decide +kernel)); (kernel_rfl); intro KK hKK; ((repeat' (first|(refine ag_x ?_;simp [go_sem, ek1])|refine adr_nil ?_|refine adr_two ?_ ?_|refine adr_kp2 ?_ ?_|((first|refine adr_qs fun KK hKK=>?_|refine adr_y fun KK hKK=>?_);simp [go_sem, ek1])|intro _|refine And.intro ?_ ?_|(apply hKK;clear hKK KK)));all_goals first|refine Hold.mk ?_|omega|with_reducible assumption|(simp only [InR] at *;omega)|skip))
  have hmc : List.take kn (t.code.map cIns) ++ List.drop (kn + 1) (t.code.map cIns) = (cutTr t kn).code.map cIns := by simp [cutTr]
  rw [hmc]
  have hpok := thin_ok (t := t) (p := cutTr t kn) hok rfl rfl hth
  have hpfit := fit_same (t := t) (p := cutTr t kn) hpok rfl hfn
  have hal := runV_thin (t := t) (p := cutTr t kn) (keep := []) hok hpok rfl rfl hth hfn hpfit (Agree.refl _ ws)
  have hsl := runV_slots hfn
  have hpl : (cutTr t kn).code.length ≤ 500 := by have := (trOk_regs hpok).2.2.1; omega
  obtain ⟨ra, hra⟩ : ∃ r, runV t ws n = r := ⟨_, rfl⟩
  obtain ⟨rb, hrb⟩ : ∃ r, runV (cutTr t kn) ws n = r := ⟨_, rfl⟩
  rw [hra, hrb] at hal
  rw [hra] at hsl
  have hps : ∀ x ∈ (cutTr t kn).exits, x.slots.length ≤ 2000 := b3
  (refine awp_sr fun KK hKK => ?_; simp [go_sem, en]; ((repeat' (first|(refine ag_x ?_;simp [go_sem, en])|intro _|refine And.intro ?_ ?_|(apply hKK;clear hKK KK)));all_goals first|refine Hold.mk ?_|omega|with_reducible assumption|(simp only [InR] at *;omega)|skip))
  (refine awp_sr fun KK hKK => ?_; simp [go_sem]; ((repeat' (first|(refine ag_x ?_;simp [go_sem])|intro _|refine And.intro ?_ ?_|(apply hKK;clear hKK KK)));all_goals first|refine Hold.mk ?_|omega|with_reducible assumption|(simp only [InR] at *;omega)|skip))
  ((try refine CallT.toA ?_); refine callT_z (by first | exact .inl ⟨rfl, rfl⟩ | exact .inr rfl) rfl (by simp [go_sem]) (by simp [go_sem]) ?_; intro args ha; simp [go_sem] at ha; subst ha; refine ⟨_, (back_spec (cutTr t kn) hpl b2 b3), ?_⟩; rintro _ rfl; simp [go_sem]; ((repeat' (first|(refine ag_x ?_;simp [go_sem])|intro _|refine And.intro ?_ ?_|(apply hKK;clear hKK KK)));all_goals first|refine Hold.mk ?_|omega|with_reducible assumption|(simp only [InR] at *;omega)|skip))
  ((try refine CallT.toA ?_); refine callT_m (by first | exact .inl ⟨rfl, rfl⟩ | exact .inr rfl) (by simp [go_sem]) ?_; intro args ha; simp [go_sem] at ha; subst ha; refine ⟨_, (run_spec (cutTr t kn) ws n), ?_⟩; rintro _ rfl; simp [go_sem, hrb, hpfit]; ((repeat' (first|(refine ag_x ?_;simp [go_sem, hrb, hpfit])|intro _|refine And.intro ?_ ?_|(apply hKK;clear hKK KK)));all_goals first|refine Hold.mk ?_|omega|with_reducible assumption|(simp only [InR] at *;omega)|skip))
  rename_i gr
  refine awp_frzbox 14 rfl rfl ?_
  simp only [go_sem]
  (refine awp_sr fun KK hKK => ?_; simp [go_sem]; ((repeat' (first|(refine ag_x ?_;simp [go_sem])|intro _|refine And.intro ?_ ?_|(apply hKK;clear hKK KK)));all_goals first|refine Hold.mk ?_|omega|with_reducible assumption|(simp only [InR] at *;omega)|skip))
  ((try refine CallT.toA ?_); refine callT_m (by first | exact .inl ⟨rfl, rfl⟩ | exact .inr rfl) (by simp [go_sem]) ?_; intro args ha; simp [go_sem] at ha; subst ha; refine ⟨_, (rrun_spec t ws n (by omega)), ?_⟩; rintro _ rfl; simp [go_sem, hra, hfn]; ((repeat' (first|(refine ag_x ?_;simp [go_sem, hra, hfn])|intro _|refine And.intro ?_ ?_|(apply hKK;clear hKK KK)));all_goals first|refine Hold.mk ?_|omega|with_reducible assumption|(simp only [InR] at *;omega)|skip))
  rename_i gs
  refine awp_frzbox 16 rfl rfl ?_
  simp only [go_sem]
  (refine awp_sr fun KK hKK => ?_; simp [go_sem]; ((repeat' (first|(refine ag_x ?_;simp [go_sem])|intro _|refine And.intro ?_ ?_|(apply hKK;clear hKK KK)));all_goals first|refine Hold.mk ?_|omega|with_reducible assumption|(simp only [InR] at *;omega)|skip))
  (refine agc_f (dB true) (by first | exact .inl ⟨rfl, rfl⟩ | exact .inr rfl) ?_ rfl ?_; (intro hc args ha; simp [go_sem] at ha; subst ha; exact (alike_spec t rb ra hok hal hsl)); simp [go_sem]; ((repeat' (first|(refine ag_x ?_;simp [go_sem])|intro _|refine And.intro ?_ ?_|(apply hKK;clear hKK KK)));all_goals first|refine Hold.mk ?_|omega|with_reducible assumption|(simp only [InR] at *;omega)|skip))
  (refine agc_f (dB true) (by first | exact .inl ⟨rfl, rfl⟩ | exact .inr rfl) ?_ rfl ?_; (intro hc args ha; simp [go_sem] at ha; subst ha; exact sane_spec); simp [go_sem]; ((repeat' (first|(refine ag_x ?_;simp [go_sem])|intro _|refine And.intro ?_ ?_|(apply hKK;clear hKK KK)));all_goals first|refine Hold.mk ?_|omega|with_reducible assumption|(simp only [InR] at *;omega)|skip))
  (refine awp_ret ?_; simp [go_sem])

set_option maxHeartbeats 8000000 in
theorem traceMatters_spec (l : List Int) (fuel other : Int) : PCall Try.prog 9 [dIs l, dI fuel, dI other] fun r => r = dB true := by 
  refine pcall_of Try.func9 rfl rfl Try.ntmps9 (rs := [.tmp 6]) (tys := [4]) rfl rfl (by simp) ?_
  have hn := umod_bounds fuel (show (0 : Int) < 200 by decide)
  have en : (IntKind.u64.wrap fuel).tmod 200 = umod fuel 200 := rfl
  have hc := umod_bounds other (show (0 : Int) < 1000 by decide)
  have ec : (IntKind.u64.wrap other).tmod 1000 = umod other 1000 := rfl
  generalize umod fuel 200 = n at hn en
  generalize umod other 1000 = c at hc ec
  (refine awp_sr fun KK hKK => ?_; simp [go_sem]; ((repeat' (first|(refine ag_x ?_;simp [go_sem])|intro _|refine And.intro ?_ ?_|(apply hKK;clear hKK KK)));all_goals first|refine Hold.mk ?_|omega|with_reducible assumption|(simp only [InR] at *;omega)|skip))
  (refine awp_sr fun KK hKK => ?_; simp [go_sem]; ((repeat' (first|(refine ag_x ?_;simp [go_sem])|intro _|refine And.intro ?_ ?_|(apply hKK;clear hKK KK)));all_goals first|refine Hold.mk ?_|omega|with_reducible assumption|(simp only [InR] at *;omega)|skip))
  ((try refine CallT.toA ?_); refine callT_m (by first | exact .inl ⟨rfl, rfl⟩ | exact .inr rfl) (by simp [go_sem]) ?_; intro args ha; simp [go_sem] at ha; subst ha; refine ⟨_, (grown_spec l), ?_⟩; rintro _ ⟨t, ws, hF, rfl⟩; simp [go_sem]; ((repeat' (first|(refine ag_x ?_;simp [go_sem])|intro _|refine And.intro ?_ ?_|(apply hKK;clear hKK KK)));all_goals first|refine Hold.mk ?_|omega|with_reducible assumption|(simp only [InR] at *;omega)|skip))
  rename_i go
  refine awp_frzbox 7 rfl rfl ?_
  simp only [go_sem]
  obtain ⟨b1, b2, b3, b4⟩ := hF.bounds
  have hok := hF.ok
  obtain ⟨hr1, hr2, hcl, hel⟩ := trOk_regs hok
  have hwl := hF.len
  have hww := hF.words
  have hfn := hF.fit (n := n) (by omega) (by omega)
  have hll : (liveV t).length = t.code.length + 1 := by simp [liveV, rowsV_len]
  have hL := lastV_len t []
  have h0 := liveV_at0 t
  have hct := fun r => markV_contains (lastV t []) r
  have hml : (markV (lastV t [])).length ≤ 20 := by have := markFrom_len (lastV t []) 0; unfold markV; omega
  (refine awp_sr fun KK hKK => ?_; simp [go_sem]; ((repeat' (first|(refine ag_x ?_;simp [go_sem])|intro _|refine And.intro ?_ ?_|(apply hKK;clear hKK KK)));all_goals first|refine Hold.mk ?_|omega|with_reducible assumption|(simp only [InR] at *;omega)|skip))
  ((try refine CallT.toA ?_); refine callT_m (by first | exact .inl ⟨rfl, rfl⟩ | exact .inr rfl) (by simp [go_sem]) ?_; intro args ha; simp [go_sem] at ha; subst ha; refine ⟨_, (back_spec t b1 b2 b3), ?_⟩; rintro _ rfl; simp [go_sem]; ((repeat' (first|(refine ag_x ?_;simp [go_sem])|intro _|refine And.intro ?_ ?_|(apply hKK;clear hKK KK)));all_goals first|refine Hold.mk ?_|omega|with_reducible assumption|(simp only [InR] at *;omega)|skip))
  rename_i gt
  refine awp_frzbox 9 rfl rfl ?_
  simp only [go_sem]
  (refine awp_sr fun KK hKK => ?_; simp [go_sem]; ((repeat' (first|(refine ag_x ?_;simp [go_sem])|intro _|refine And.intro ?_ ?_|(apply hKK;clear hKK KK)));all_goals first|refine Hold.mk ?_|omega|with_reducible assumption|(simp only [InR] at *;omega)|skip))
  ((try refine CallT.toA ?_); refine callT_m (by first | exact .inl ⟨rfl, rfl⟩ | exact .inr rfl) (by simp [go_sem]) ?_; intro args ha; simp [go_sem] at ha; subst ha; refine ⟨_, (liveT_spec t), ?_⟩; rintro _ rfl; simp [go_sem, hok]; ((repeat' (first|(refine ag_x ?_;simp [go_sem, hok])|intro _|refine And.intro ?_ ?_|(apply hKK;clear hKK KK)));all_goals first|refine Hold.mk ?_|omega|with_reducible assumption|(simp only [InR] at *;omega)|skip))
  refine awp_seq_k fun K1 hK1 => ?_
  (refine awp_sr fun KK hKK => ?_; simp [go_sem, hll]; ((repeat' (first|(refine ag_x ?_;simp [go_sem, hll])|intro _|refine And.intro ?_ ?_|(apply hKK;clear hKK KK)));all_goals first|refine Hold.mk ?_|omega|with_reducible assumption|(simp only [InR] at *;omega)|skip))
  (refine awp_if fun T F hT hF => ?_; simp [go_sem]; refine hF ?_; clear hT hF T F)
  refine awp_skip ?_
  refine hK1 _ ?_; clear hK1
  (refine awp_sr fun KK hKK => ?_; simp [go_sem]; ((repeat' (first|(refine ag_x ?_;simp [go_sem])|intro _|refine And.intro ?_ ?_|(apply hKK;clear hKK KK)));all_goals first|refine Hold.mk ?_|omega|with_reducible assumption|(simp only [InR] at *;omega)|skip))
  rename_i g0 gc
  generalize hLd : lastV t [] = L at hL h0 hct hml
  generalize markV L = M at h0 hct hml
  refine awp_seq_k fun K3 hK3 => ?_
  (refine awp_sr fun KK hKK => ?_; simp [go_sem]; ((repeat' (first|(refine ag_x ?_;simp [go_sem])|intro _|refine And.intro ?_ ?_|(apply hKK;clear hKK KK)));all_goals first|refine Hold.mk ?_|omega|with_reducible assumption|(simp only [InR] at *;omega)|skip))
  refine awp_block ?_
  refine awp_loop (σ := Nat) (fun r => ⟨[(1, dI fuel), (2, dI other), (7, .rd [dI t.regs, .sl 6 (t.code.map cIns), .sl 2 (t.exits.map cExi)]), (8, dIs ws), (9, .rd [dI t.regs, .sl 6 (t.code.map cIns), .sl 2 (t.exits.map cExi)]), (10, dIss (liveV t)), (12, .own 44 gc), (13, dI r)], [(44, (gc, .row 3 1 ((chgV L ws c r).map cI)))]⟩) (fun r => r ≤ ws.length) (fun r => ws.length - r) 0 ?_ ?_ ?_
  · (refine cov_of ?_ ?_ <;> simp [go_sem, chgV_zero])
  · simp
  intro r hr
  refine awp_seq_k fun K4 hK4 => ?_
  (refine awp_sr fun KK hKK => ?_; simp [go_sem]; ((repeat' (first|(refine ag_x ?_;simp [go_sem])|intro _|refine And.intro ?_ ?_|(apply hKK;clear hKK KK)));all_goals first|refine Hold.mk ?_|omega|with_reducible assumption|(simp only [InR] at *;omega)|skip))
  (refine awp_if fun T F hT hF => ?_; simp [go_sem]; refine BR.intro (fun h5 => hT ?_) (fun h5 => hF ?_); all_goals clear hT hF T F; try simp at h5) 
  · refine awp_skip ?_
    refine hK4 _ ?_; clear hK4
    have hstep := chgV_step (L := L) (c := c) (k := r) (ws := ws) (by omega)
    have hclen := chgV_len L ws c r
    have hat := chgV_get L ws c r r (by omega)
    generalize chgV L ws c r = cs at hstep hclen hat
    refine awp_seq_k fun K6 hK6 => ?_
    have tl6 : ∀ S', Cov S' ⟨[(1, dI fuel), (2, dI other), (7, .rd [dI t.regs, .sl 6 (t.code.map cIns), .sl 2 (t.exits.map cExi)]), (8, dIs ws), (9, .rd [dI t.regs, .sl 6 (t.code.map cIns), .sl 2 (t.exits.map cExi)]), (10, dIss (liveV t)), (12, .own 44 gc), (13, dI r)], [(44, (gc, .row 3 1 ((chgV L ws c (r + 1)).map cI)))]⟩ → K6 S' := fun S' hS => by
      refine hK6 _ ?_; clear hK6
      refine awp_cov hS ?_; clear hS
      (refine awp_r fun KK hKK => ?_; simp [go_sem]; ((repeat' (first|(refine ag_x ?_;simp [go_sem])|intro _|refine And.intro ?_ ?_|(apply hKK;clear hKK KK)));all_goals first|refine Hold.mk ?_|omega|with_reducible assumption|(simp only [InR] at *;omega)|skip))
      refine ⟨r + 1, ?_, by omega, by omega⟩
      (refine cov_of ?_ ?_ <;> simp [go_sem])
    clear hK6
    refine awp_block ?_
    (refine awp_sr fun KK hKK => ?_; simp [go_sem]; ((repeat' (first|(refine ag_x ?_;simp [go_sem])|intro _|refine And.intro ?_ ?_|(apply hKK;clear hKK KK)));all_goals first|refine Hold.mk ?_|omega|with_reducible assumption|(simp only [InR] at *;omega)|skip))
    refine awp_seq_k fun K7 hK7 => ?_
    (refine awp_sr fun KK hKK => ?_; simp [go_sem]; ((repeat' (first|(refine ag_x ?_;simp [go_sem])|intro _|refine And.intro ?_ ?_|(apply hKK;clear hKK KK)));all_goals first|refine Hold.mk ?_|omega|with_reducible assumption|(simp only [InR] at *;omega)|skip))
    refine awp_block ?_
    refine awp_loop (σ := Nat) (fun i => ⟨[(1, dI fuel), (2, dI other), (7, .rd [dI t.regs, .sl 6 (t.code.map cIns), .sl 2 (t.exits.map cExi)]), (8, dIs ws), (9, .rd [dI t.regs, .sl 6 (t.code.map cIns), .sl 2 (t.exits.map cExi)]), (10, dIss (liveV t)), (12, .own 44 gc), (13, dI r), (14, dB (hasUp M r i)), (15, dI i)], [(44, (gc, .row 3 1 (cs.map cI)))]⟩) (fun i => i ≤ M.length) (fun i => M.length - i) 0 ?_ ?_ ?_
    · (refine cov_of ?_ ?_ <;> simp [go_sem, hasUp_zero])
    · simp
    intro i hi
    refine awp_seq_k fun K8 hK8 => ?_
    (refine awp_sr fun KK hKK => ?_; simp [go_sem, h0]; ((repeat' (first|(refine ag_x ?_;simp [go_sem, h0])|intro _|refine And.intro ?_ ?_|(apply hKK;clear hKK KK)));all_goals first|refine Hold.mk ?_|omega|with_reducible assumption|(simp only [InR] at *;omega)|skip))
    (refine awp_if fun T F hT hF => ?_; simp [go_sem]; refine BR.intro (fun h9 => hT ?_) (fun h9 => hF ?_); all_goals clear hT hF T F; try simp at h9) 
    · refine awp_skip ?_
      refine hK8 _ ?_; clear hK8
      obtain ⟨v, hv⟩ : ∃ v, M[i]? = some v := ⟨_, List.getElem?_eq_getElem (by omega)⟩
      have htk := hasUp_step hv (r : Int)
      generalize hasUp M r i = bl at htk ⊢
      refine awp_seq_k fun K10 hK10 => ?_
      refine awp_block ?_
      (refine awp_r fun KK hKK => ?_; simp [go_sem, h0, hv]; ((repeat' (first|(refine ag_x ?_;simp [go_sem, h0, hv])|intro _|refine And.intro ?_ ?_|(apply hKK;clear hKK KK)));all_goals first|refine Hold.mk ?_|omega|with_reducible assumption|(simp only [InR] at *;omega)|skip))
      refine hK10 _ ?_; clear hK10
      (refine awp_r fun KK hKK => ?_; simp [go_sem]; ((repeat' (first|(refine ag_x ?_;simp [go_sem])|intro _|refine And.intro ?_ ?_|(apply hKK;clear hKK KK)));all_goals first|refine Hold.mk ?_|omega|with_reducible assumption|(simp only [InR] at *;omega)|skip))
      refine ⟨i + 1, ?_, by omega, by omega⟩
      rw [htk]
      (refine cov_of ?_ ?_ <;> simp [go_sem])
    · refine awp_exit ?_
      simp only [go_sem]
      refine hK7 _ ?_; clear hK7
      have : i = M.length := by omega
      subst this
      rw [hasUp_all, hct r]
      (refine awp_sr fun KK hKK => ?_; simp [go_sem]; ((repeat' (first|(refine ag_x ?_;simp [go_sem])|intro _|refine And.intro ?_ ?_|(apply hKK;clear hKK KK)));all_goals first|refine Hold.mk ?_|omega|with_reducible assumption|(simp only [InR] at *;omega)|skip))
      (refine awp_if fun T F hT hF => ?_; simp [go_sem]; refine BR.intro (fun h11 => hT ?_) (fun h11 => hF ?_); all_goals clear hT hF T F; try simp at h11) 
      · obtain ⟨y, hy⟩ : ∃ y, cs[r]? = some y := ⟨_, hat⟩
        (refine awp_r fun KK hKK => ?_; simp [go_sem, ec, hy]; ((repeat' (first|(refine ag_x ?_;simp [go_sem, ec, hy])|intro _|refine And.intro ?_ ?_|(apply hKK;clear hKK KK)));all_goals first|refine Hold.mk ?_|omega|with_reducible assumption|(simp only [InR] at *;omega)|skip))
        refine tl6 _ ?_
        rw [hstep, if_pos (by simpa using h11)]
        (refine cov_of ?_ ?_ <;> simp [go_sem])
      · refine awp_skip ?_
        refine tl6 _ ?_
        rw [hstep, if_neg (by simpa using h11)]
        (refine cov_of ?_ ?_ <;> simp [go_sem])
  · refine awp_exit ?_
    simp only [go_sem]
    refine hK3 _ ?_; clear hK3
    have : r = ws.length := by omega
    subst this
    have hag : Agree (lastV t []) (chgV L ws c ws.length) ws := by rw [hLd]; exact chgV_agree
    have hcl2 := chgV_len L ws c ws.length
    have hfc : fitOk t (chgV L ws c ws.length) n = true := by
      have := chgV_words (L := L) (c := c) (k := ws.length) hww (by rw [isW_iff]; omega)
      simp [fitOk, hok, this, hcl2, hwl]; omega
    have hal := runV_thin (t := t) (p := t) (keep := []) hok hok rfl rfl (Thin.refl _ _ _) hfc hfn hag
    have hsl := runV_slots hfc
    obtain ⟨ra, hra⟩ : ∃ r, runV t (chgV L ws c ws.length) n = r := ⟨_, rfl⟩
    obtain ⟨rb, hrb⟩ : ∃ r, runV t ws n = r := ⟨_, rfl⟩
    rw [hra, hrb] at hal
    rw [hra] at hsl
    generalize chgV L ws c ws.length = cs at hra hfc hcl2
    (refine awp_sr fun KK hKK => ?_; simp [go_sem, en]; ((repeat' (first|(refine ag_x ?_;simp [go_sem, en])|intro _|refine And.intro ?_ ?_|(apply hKK;clear hKK KK)));all_goals first|refine Hold.mk ?_|omega|with_reducible assumption|(simp only [InR] at *;omega)|skip))
    (refine awp_sr fun KK hKK => ?_; simp [go_sem]; ((repeat' (first|(refine ag_x ?_;simp [go_sem])|intro _|refine And.intro ?_ ?_|(apply hKK;clear hKK KK)));all_goals first|refine Hold.mk ?_|omega|with_reducible assumption|(simp only [InR] at *;omega)|skip))
    ((try refine CallT.toA ?_); refine callT_m (by first | exact .inl ⟨rfl, rfl⟩ | exact .inr rfl) (by simp [go_sem]) ?_; intro args ha; simp [go_sem] at ha; subst ha; refine ⟨_, (run_spec t ws n), ?_⟩; rintro _ rfl; simp [go_sem, hrb, hfn]; ((repeat' (first|(refine ag_x ?_;simp [go_sem, hrb, hfn])|intro _|refine And.intro ?_ ?_|(apply hKK;clear hKK KK)));all_goals first|refine Hold.mk ?_|omega|with_reducible assumption|(simp only [InR] at *;omega)|skip))
    rename_i gr
    refine awp_frzbox 17 rfl rfl ?_
    simp only [go_sem]
    (refine awp_sr fun KK hKK => ?_; simp [go_sem]; ((repeat' (first|(refine ag_x ?_;simp [go_sem])|intro _|refine And.intro ?_ ?_|(apply hKK;clear hKK KK)));all_goals first|refine Hold.mk ?_|omega|with_reducible assumption|(simp only [InR] at *;omega)|skip))
    ((try refine CallT.toA ?_); refine callT_z (by first | exact .inl ⟨rfl, rfl⟩ | exact .inr rfl) rfl (by simp [go_sem]) (by simp [go_sem]) ?_; intro args ha; simp [go_sem] at ha; subst ha; refine ⟨_, (rrun_spec t cs n (by omega)), ?_⟩; rintro _ rfl; simp [go_sem, hra, hfc]; ((repeat' (first|(refine ag_x ?_;simp [go_sem, hra, hfc])|intro _|refine And.intro ?_ ?_|(apply hKK;clear hKK KK)));all_goals first|refine Hold.mk ?_|omega|with_reducible assumption|(simp only [InR] at *;omega)|skip))
    rename_i gs
    refine awp_frzbox 19 rfl rfl ?_
    simp only [go_sem]
    (refine awp_sr fun KK hKK => ?_; simp [go_sem]; ((repeat' (first|(refine ag_x ?_;simp [go_sem])|intro _|refine And.intro ?_ ?_|(apply hKK;clear hKK KK)));all_goals first|refine Hold.mk ?_|omega|with_reducible assumption|(simp only [InR] at *;omega)|skip))
    (refine agc_f (dB true) (by first | exact .inl ⟨rfl, rfl⟩ | exact .inr rfl) ?_ rfl ?_; (intro hc args ha; simp [go_sem] at ha; subst ha; exact (alike_spec t rb ra hok hal hsl)); simp [go_sem]; ((repeat' (first|(refine ag_x ?_;simp [go_sem])|intro _|refine And.intro ?_ ?_|(apply hKK;clear hKK KK)));all_goals first|refine Hold.mk ?_|omega|with_reducible assumption|(simp only [InR] at *;omega)|skip))
    (refine agc_f (dB true) (by first | exact .inl ⟨rfl, rfl⟩ | exact .inr rfl) ?_ rfl ?_; (intro hc args ha; simp [go_sem] at ha; subst ha; exact sane_spec); simp [go_sem]; ((repeat' (first|(refine ag_x ?_;simp [go_sem])|intro _|refine And.intro ?_ ?_|(apply hKK;clear hKK KK)));all_goals first|refine Hold.mk ?_|omega|with_reducible assumption|(simp only [InR] at *;omega)|skip))
    (refine awp_ret ?_; simp [go_sem])
end Go.Proofs.Ytmgbaegdkjcagaa
