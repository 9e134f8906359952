/- Part of a proof: see the last text. -/
import Derived.Test.YtmgbaegdkjcagaaWF
import Derived.Test.YtmgbaegdkjcagaaED
set_option linter.unusedVariables false
set_option linter.unusedSimpArgs false
namespace Go.Proofs.Ytmgbaegdkjcagaa
open Go.Eng
set_option maxRecDepth 20000
attribute [local irreducible] AG CallA CallT AWp PCall ACall AgC

theorem invFrom_len (t : Tr) : ∀ (is : List Ins) (k : Nat) (out : List Nat), (invFrom t is k out).length ≤ out.length + is.length
  | [], k, out => by simp [invFrom]
  | i :: is, k, out => by
    have := invFrom_len t is (k + 1) (invStep t out k i)
    simp only [invFrom, List.length_cons]
    have h2 : (invStep t out k i).length ≤ out.length + 1 := by unfold invStep; split <;> simp
    omega
theorem stFrom_app (k : Nat) (D : Int) : ∀ (l m : List Ins) (j : Nat), stFrom k D (l ++ m) j = stFrom k D l j ++ stFrom k D m (j + l.length)
  | [], m, j => by simp [stFrom]
  | i :: l, m, j => by
    simp only [List.cons_append, stFrom, stFrom_app k D l m (j + 1), List.length_cons, List.append_assoc, show j + 1 + l.length = j + (l.length + 1) by omega]
theorem stFrom_step {code : List Ins} {i : Nat} {x : Ins} (k : Nat) (D : Int) (h : code[i]? = some x) : stFrom k D (code.take (i + 1)) 0 = stFrom k D (code.take i) 0 ++ ((if x.op ≠ 10 then [x] else []) ++ (if i = k then [⟨10, 0, D, 0, 0, 0⟩] else [])) := by
  have hk := (List.getElem?_eq_some_iff.1 h).1
  rw [List.take_add_one, h, stFrom_app]
  simp only [Option.toList, stFrom, List.append_nil, List.length_take, Nat.zero_add]
  rw [Nat.min_eq_left (by omega)]
theorem stFrom_len (k : Nat) (D : Int) : ∀ (l : List Ins) (j : Nat), (stFrom k D l j).length ≤ 2 * l.length
  | [], j => by simp [stFrom]
  | i :: l, j => by
    have := stFrom_len k D l (j + 1)
    simp only [stFrom, List.length_append, List.length_cons]
    split <;> split <;> simp <;> omega
theorem stFrom_mem (k : Nat) (D : Int) : ∀ (l : List Ins) (j : Nat), ∀ x ∈ stFrom k D l j, x ∈ l ∨ x = ⟨10, 0, D, 0, 0, 0⟩
  | [], j, x, h => by simp [stFrom] at h
  | i :: l, j, x, h => by
    simp only [stFrom, List.mem_append] at h
    rcases h with h | h | h
    · split at h
      · simp at h; exact .inl (by simp [h])
      · simp at h
    · split at h
      · simp at h; exact .inr h
      · simp at h
    · rcases stFrom_mem k D l (j + 1) x h with h | h
      · exact .inl (by simp [h])
      · exact .inr h
def stTr (t : Tr) (k : Nat) (D : Int) : Tr := ⟨t.regs, stFrom k D t.code 0, t.exits⟩
theorem stTr_ok {t : Tr} {k : Nat} {D : Int} (h : trOk t = true) (hc : t.code.length ≤ 25) (hD : 0 ≤ D ∧ D < t.regs) : trOk (stTr t k D) = true := by
  have hl := stFrom_len k D t.code 0
  have hm := stFrom_mem k D t.code 0
  simp only [trOk, Bool.and_eq_true, decide_eq_true_eq, List.all_eq_true] at h ⊢
  obtain ⟨⟨⟨⟨⟨h1, h2⟩, h3⟩, h4⟩, h5⟩, h6⟩ := h
  refine ⟨⟨⟨⟨⟨h1, h2⟩, by simp only [stTr]; omega⟩, h4⟩, fun x hx => ?_⟩, h6⟩
  rcases hm x hx with h | h
  · exact h5 x h
  · subst h
    rw [← insR_eq]
    simp [insR, fldOk, flds, stTr]
    exact ⟨hD.1, decide_eq_true (by omega)⟩

set_option maxHeartbeats 8000000 in
theorem traceSteady_spec (l : List Int) (fuel which : Int) : PCall Try.prog 5 [dIs l, dI fuel, dI which] fun r => r = dB true := by 
  refine pcall_of Try.func5 rfl rfl Try.ntmps5 (rs := [.tmp 6]) (tys := [4]) rfl rfl (by simp) ?_
  have hn := umod_bounds fuel (show (0 : Int) < 200 by decide)
  have en : (IntKind.u64.wrap fuel).tmod 200 = umod fuel 200 := rfl
  generalize umod fuel 200 = n at hn en
  (refine awp_sr fun KK hKK => ?_; simp [go_sem]; ((repeat' (first | (refine ag_c ?_; simp [go_sem]) | (refine ag_b ?_; simp [go_sem]) | (refine ag_m ?_; simp [go_sem]) | (refine ag_a ?_; simp [go_sem]) | (refine ag_w ?_; simp [go_sem]) | intro _ | refine And.intro ?_ ?_ | (refine hKK _ ?_; clear hKK KK) | (refine hKK _ _ ?_; clear hKK KK) | refine adr_nil ?_ | ((refine adr_qs fun KK hKK => ?_); simp [go_sem]) | ((refine adr_kp fun KK hKK => ?_); simp [go_sem]) | ((refine adr_one fun KK hKK => ?_); simp [go_sem]) | refine adr_two ?_ ?_ | refine adr_kp2 ?_ ?_ | ((refine adr_sk fun KK hKK => ?_); simp [go_sem]))); all_goals first | (refine Hold.mk ?_) | omega | (with_reducible assumption) | (simp only [InR] at *; omega) | skip))
  (refine awp_sr fun KK hKK => ?_; simp [go_sem]; ((repeat' (first | (refine ag_c ?_; simp [go_sem]) | (refine ag_b ?_; simp [go_sem]) | (refine ag_m ?_; simp [go_sem]) | (refine ag_a ?_; simp [go_sem]) | (refine ag_w ?_; simp [go_sem]) | intro _ | refine And.intro ?_ ?_ | (refine hKK _ ?_; clear hKK KK) | (refine hKK _ _ ?_; clear hKK KK) | refine adr_nil ?_ | ((refine adr_qs fun KK hKK => ?_); simp [go_sem]) | ((refine adr_kp fun KK hKK => ?_); simp [go_sem]) | ((refine adr_one fun KK hKK => ?_); simp [go_sem]) | refine adr_two ?_ ?_ | refine adr_kp2 ?_ ?_ | ((refine adr_sk fun KK hKK => ?_); simp [go_sem]))); all_goals first | (refine Hold.mk ?_) | omega | (with_reducible assumption) | (simp only [InR] at *; omega) | skip))
  ((try refine CallT.toA ?_); refine callT_m (by first | exact .inl ⟨rfl, rfl⟩ | exact .inr rfl) (by simp [go_sem]) ?_; intro args ha; simp [go_sem] at ha; subst ha; refine ⟨_, (grown_spec l), ?_⟩; rintro _ ⟨t, ws, hF, rfl⟩; simp [go_sem]; ((repeat' (first | (refine ag_c ?_; simp [go_sem]) | (refine ag_b ?_; simp [go_sem]) | (refine ag_m ?_; simp [go_sem]) | (refine ag_a ?_; simp [go_sem]) | (refine ag_w ?_; simp [go_sem]) | intro _ | refine And.intro ?_ ?_ | (refine hKK _ ?_; clear hKK KK) | (refine hKK _ _ ?_; clear hKK KK) | refine adr_nil ?_ | ((refine adr_qs fun KK hKK => ?_); simp [go_sem]) | ((refine adr_kp fun KK hKK => ?_); simp [go_sem]) | ((refine adr_one fun KK hKK => ?_); simp [go_sem]) | refine adr_two ?_ ?_ | refine adr_kp2 ?_ ?_ | ((refine adr_sk fun KK hKK => ?_); simp [go_sem]))); all_goals first | (refine Hold.mk ?_) | omega | (with_reducible assumption) | (simp only [InR] at *; omega) | skip))
  rename_i go
  refine awp_frzbox 7 rfl rfl ?_
  simp only [go_sem]
  obtain ⟨b1, b2, b3, b4⟩ := hF.bounds
  have hok := hF.ok
  have hreg := trOk_regs hok
  have hc25 := hF.code
  (refine awp_sr fun KK hKK => ?_; simp [go_sem]; ((repeat' (first | (refine ag_c ?_; simp [go_sem]) | (refine ag_b ?_; simp [go_sem]) | (refine ag_m ?_; simp [go_sem]) | (refine ag_a ?_; simp [go_sem]) | (refine ag_w ?_; simp [go_sem]) | intro _ | refine And.intro ?_ ?_ | (refine hKK _ ?_; clear hKK KK) | (refine hKK _ _ ?_; clear hKK KK) | refine adr_nil ?_ | ((refine adr_qs fun KK hKK => ?_); simp [go_sem]) | ((refine adr_kp fun KK hKK => ?_); simp [go_sem]) | ((refine adr_one fun KK hKK => ?_); simp [go_sem]) | refine adr_two ?_ ?_ | refine adr_kp2 ?_ ?_ | ((refine adr_sk fun KK hKK => ?_); simp [go_sem]))); all_goals first | (refine Hold.mk ?_) | omega | (with_reducible assumption) | (simp only [InR] at *; omega) | skip))
  ((try refine CallT.toA ?_); refine callT_m (by first | exact .inl ⟨rfl, rfl⟩ | exact .inr rfl) (by simp [go_sem]) ?_; intro args ha; simp [go_sem] at ha; subst ha; refine ⟨_, (back_spec t b1 b2 b3), ?_⟩; rintro _ rfl; simp [go_sem]; ((repeat' (first | (refine ag_c ?_; simp [go_sem]) | (refine ag_b ?_; simp [go_sem]) | (refine ag_m ?_; simp [go_sem]) | (refine ag_a ?_; simp [go_sem]) | (refine ag_w ?_; simp [go_sem]) | intro _ | refine And.intro ?_ ?_ | (refine hKK _ ?_; clear hKK KK) | (refine hKK _ _ ?_; clear hKK KK) | refine adr_nil ?_ | ((refine adr_qs fun KK hKK => ?_); simp [go_sem]) | ((refine adr_kp fun KK hKK => ?_); simp [go_sem]) | ((refine adr_one fun KK hKK => ?_); simp [go_sem]) | refine adr_two ?_ ?_ | refine adr_kp2 ?_ ?_ | ((refine adr_sk fun KK hKK => ?_); simp [go_sem]))); all_goals first | (refine Hold.mk ?_) | omega | (with_reducible assumption) | (simp only [InR] at *; omega) | skip))
  ((try refine CallT.toA ?_); refine callT_m (by first | exact .inl ⟨rfl, rfl⟩ | exact .inr rfl) (by simp [go_sem]) ?_; intro args ha; simp [go_sem] at ha; subst ha; refine ⟨_, (invariant_spec t), ?_⟩; rintro _ rfl; simp [go_sem, hok]; ((repeat' (first | (refine ag_c ?_; simp [go_sem, hok]) | (refine ag_b ?_; simp [go_sem, hok]) | (refine ag_m ?_; simp [go_sem, hok]) | (refine ag_a ?_; simp [go_sem, hok]) | (refine ag_w ?_; simp [go_sem, hok]) | intro _ | refine And.intro ?_ ?_ | (refine hKK _ ?_; clear hKK KK) | (refine hKK _ _ ?_; clear hKK KK) | refine adr_nil ?_ | ((refine adr_qs fun KK hKK => ?_); simp [go_sem, hok]) | ((refine adr_kp fun KK hKK => ?_); simp [go_sem, hok]) | ((refine adr_one fun KK hKK => ?_); simp [go_sem, hok]) | refine adr_two ?_ ?_ | refine adr_kp2 ?_ ?_ | ((refine adr_sk fun KK hKK => ?_); simp [go_sem, hok]))); all_goals first | (refine Hold.mk ?_) | omega | (with_reducible assumption) | (simp only [InR] at *; omega) | skip))
  refine awp_seq_k fun K1 hK1 => ?_
  (refine awp_sr fun KK hKK => ?_; simp [go_sem]; ((repeat' (first | (refine ag_c ?_; simp [go_sem]) | (refine ag_b ?_; simp [go_sem]) | (refine ag_m ?_; simp [go_sem]) | (refine ag_a ?_; simp [go_sem]) | (refine ag_w ?_; simp [go_sem]) | intro _ | refine And.intro ?_ ?_ | (refine hKK _ ?_; clear hKK KK) | (refine hKK _ _ ?_; clear hKK KK) | refine adr_nil ?_ | ((refine adr_qs fun KK hKK => ?_); simp [go_sem]) | ((refine adr_kp fun KK hKK => ?_); simp [go_sem]) | ((refine adr_one fun KK hKK => ?_); simp [go_sem]) | refine adr_two ?_ ?_ | refine adr_kp2 ?_ ?_ | ((refine adr_sk fun KK hKK => ?_); simp [go_sem]))); all_goals first | (refine Hold.mk ?_) | omega | (with_reducible assumption) | (simp only [InR] at *; omega) | skip))
  (refine awp_if fun T F hT hF => ?_; simp [go_sem]; refine hF ?_; clear hT hF T F)
  refine awp_skip ?_
  refine hK1 _ ?_; clear hK1
  refine awp_seq_k fun K3 hK3 => ?_
  have hnl : (nI (invV t)).length = (invV t).length := by simp [nI]
  (refine awp_sr fun KK hKK => ?_; simp [go_sem]; ((repeat' (first | (refine ag_c ?_; simp [go_sem]) | (refine ag_b ?_; simp [go_sem]) | (refine ag_m ?_; simp [go_sem]) | (refine ag_a ?_; simp [go_sem]) | (refine ag_w ?_; simp [go_sem]) | intro _ | refine And.intro ?_ ?_ | (refine hKK _ ?_; clear hKK KK) | (refine hKK _ _ ?_; clear hKK KK) | refine adr_nil ?_ | ((refine adr_qs fun KK hKK => ?_); simp [go_sem]) | ((refine adr_kp fun KK hKK => ?_); simp [go_sem]) | ((refine adr_one fun KK hKK => ?_); simp [go_sem]) | refine adr_two ?_ ?_ | refine adr_kp2 ?_ ?_ | ((refine adr_sk fun KK hKK => ?_); simp [go_sem]))); all_goals first | (refine Hold.mk ?_) | omega | (with_reducible assumption) | (simp only [InR] at *; omega) | skip))
  (refine awp_if fun T F hT hF => ?_; simp [go_sem]; refine BR.intro (fun h4 => hT ?_) (fun h4 => hF ?_); all_goals clear hT hF T F; try simp at h4)
  · (refine awp_sr fun KK hKK => ?_; simp [go_sem]; ((repeat' (first | (refine ag_c ?_; simp [go_sem]) | (refine ag_b ?_; simp [go_sem]) | (refine ag_m ?_; simp [go_sem]) | (refine ag_a ?_; simp [go_sem]) | (refine ag_w ?_; simp [go_sem]) | intro _ | refine And.intro ?_ ?_ | (refine hKK _ ?_; clear hKK KK) | (refine hKK _ _ ?_; clear hKK KK) | refine adr_nil ?_ | ((refine adr_qs fun KK hKK => ?_); simp [go_sem]) | ((refine adr_kp fun KK hKK => ?_); simp [go_sem]) | ((refine adr_one fun KK hKK => ?_); simp [go_sem]) | refine adr_two ?_ ?_ | refine adr_kp2 ?_ ?_ | ((refine adr_sk fun KK hKK => ?_); simp [go_sem]))); all_goals first | (refine Hold.mk ?_) | omega | (with_reducible assumption) | (simp only [InR] at *; omega) | skip))
    ((try refine CallT.toA ?_); refine callT_f (by first | exact .inl ⟨rfl, rfl⟩ | exact .inr rfl) ?_; intro args ha; simp [go_sem] at ha; subst ha; refine ⟨_, sane_spec, ?_⟩; rintro _ rfl; refine ⟨rfl, ?_⟩; simp [go_sem]; ((repeat' (first | (refine ag_c ?_; simp [go_sem]) | (refine ag_b ?_; simp [go_sem]) | (refine ag_m ?_; simp [go_sem]) | (refine ag_a ?_; simp [go_sem]) | (refine ag_w ?_; simp [go_sem]) | intro _ | refine And.intro ?_ ?_ | (refine hKK _ ?_; clear hKK KK) | (refine hKK _ _ ?_; clear hKK KK) | refine adr_nil ?_ | ((refine adr_qs fun KK hKK => ?_); simp [go_sem]) | ((refine adr_kp fun KK hKK => ?_); simp [go_sem]) | ((refine adr_one fun KK hKK => ?_); simp [go_sem]) | refine adr_two ?_ ?_ | refine adr_kp2 ?_ ?_ | ((refine adr_sk fun KK hKK => ?_); simp [go_sem]))); all_goals first | (refine Hold.mk ?_) | omega | (with_reducible assumption) | (simp only [InR] at *; omega) | skip))
    (refine awp_ret ?_; simp [go_sem])
  refine awp_skip ?_
  refine hK3 _ ?_; clear hK3
  have hpos : 0 < (invV t).length := by
    rcases Nat.eq_zero_or_pos (invV t).length with h | h
    · exact absurd (List.eq_nil_of_length_eq_zero (hnl.trans h)) h4
    · exact h
  have hle : (invV t).length ≤ 25 := by
    have := invFrom_len t t.code 0 []
    simp only [List.length_nil, Nat.zero_add] at this
    unfold invV
    omega
  have hwl : IntKind.u64.wrap ((invV t).length : Int) = (invV t).length := u64_wrap_id (by omega) (by omega)
  have hq : 0 ≤ (IntKind.u64.wrap which).tmod (invV t).length ∧ (IntKind.u64.wrap which).tmod (invV t).length < (invV t).length := ⟨Int.tmod_nonneg _ (u64_wrap_bounds _).1, Int.tmod_lt_of_pos _ (by omega)⟩
  generalize hqd : (IntKind.u64.wrap which).tmod (invV t).length = q at hq
  obtain ⟨kn, hkn⟩ : ∃ k, (invV t)[q.toNat]? = some k := ⟨_, List.getElem?_eq_getElem (by omega)⟩
  have hkI : (nI (invV t))[q.toNat]? = some (kn : Int) := by simp [nI, hkn]
  have hmem : kn ∈ invV t := List.mem_of_getElem? hkn
  obtain ⟨ik, hik, hst⟩ := inv_at hmem
  have hknl := (List.getElem?_eq_some_iff.1 hik).1
  obtain ⟨_, _, _, _, hd, _⟩ := insOk_regs (insOk_at hok hik) hreg.1
  have hwne : ¬ ((invV t).length : Int) = 0 := by omega
  have hne : ¬ invV t = [] := fun h => by rw [h] at hpos; simp at hpos
  (refine awp_sr fun KK hKK => ?_; simp [go_sem, hnl, hwl, hne, hqd, hkI]; ((repeat' (first | (refine ag_c ?_; simp [go_sem, hnl, hwl, hne, hqd, hkI]) | (refine ag_b ?_; simp [go_sem, hnl, hwl, hne, hqd, hkI]) | (refine ag_m ?_; simp [go_sem, hnl, hwl, hne, hqd, hkI]) | (refine ag_a ?_; simp [go_sem, hnl, hwl, hne, hqd, hkI]) | (refine ag_w ?_; simp [go_sem, hnl, hwl, hne, hqd, hkI]) | intro _ | refine And.intro ?_ ?_ | (refine hKK _ ?_; clear hKK KK) | (refine hKK _ _ ?_; clear hKK KK) | refine adr_nil ?_ | ((refine adr_qs fun KK hKK => ?_); simp [go_sem, hnl, hwl, hne, hqd, hkI]) | ((refine adr_kp fun KK hKK => ?_); simp [go_sem, hnl, hwl, hne, hqd, hkI]) | ((refine adr_one fun KK hKK => ?_); simp [go_sem, hnl, hwl, hne, hqd, hkI]) | refine adr_two ?_ ?_ | refine adr_kp2 ?_ ?_ | ((refine adr_sk fun KK hKK => ?_); simp [go_sem, hnl, hwl, hne, hqd, hkI]))); all_goals first | (refine Hold.mk ?_) | omega | (with_reducible assumption) | (simp only [InR] at *; omega) | skip))
  refine awp_seq_k fun K5 hK5 => ?_
  (refine awp_sr fun KK hKK => ?_; simp [go_sem]; ((repeat' (first | (refine ag_c ?_; simp [go_sem]) | (refine ag_b ?_; simp [go_sem]) | (refine ag_m ?_; simp [go_sem]) | (refine ag_a ?_; simp [go_sem]) | (refine ag_w ?_; simp [go_sem]) | intro _ | refine And.intro ?_ ?_ | (refine hKK _ ?_; clear hKK KK) | (refine hKK _ _ ?_; clear hKK KK) | refine adr_nil ?_ | ((refine adr_qs fun KK hKK => ?_); simp [go_sem]) | ((refine adr_kp fun KK hKK => ?_); simp [go_sem]) | ((refine adr_one fun KK hKK => ?_); simp [go_sem]) | refine adr_two ?_ ?_ | refine adr_kp2 ?_ ?_ | ((refine adr_sk fun KK hKK => ?_); simp [go_sem]))); all_goals first | (refine Hold.mk ?_) | omega | (with_reducible assumption) | (simp only [InR] at *; omega) | skip))
  (refine awp_if fun T F hT hF => ?_; simp [go_sem, show ¬ (kn : Int) < 0 by omega, show ¬ t.code.length ≤ kn by omega]; refine hF ?_; clear hT hF T F)
  refine awp_skip ?_
  refine hK5 _ ?_; clear hK5
  (refine awp_sr fun KK hKK => ?_; simp [go_sem]; ((repeat' (first | (refine ag_c ?_; simp [go_sem]) | (refine ag_b ?_; simp [go_sem]) | (refine ag_m ?_; simp [go_sem]) | (refine ag_a ?_; simp [go_sem]) | (refine ag_w ?_; simp [go_sem]) | intro _ | refine And.intro ?_ ?_ | (refine hKK _ ?_; clear hKK KK) | (refine hKK _ _ ?_; clear hKK KK) | refine adr_nil ?_ | ((refine adr_qs fun KK hKK => ?_); simp [go_sem]) | ((refine adr_kp fun KK hKK => ?_); simp [go_sem]) | ((refine adr_one fun KK hKK => ?_); simp [go_sem]) | refine adr_two ?_ ?_ | refine adr_kp2 ?_ ?_ | ((refine adr_sk fun KK hKK => ?_); simp [go_sem]))); all_goals first | (refine Hold.mk ?_) | omega | (with_reducible assumption) | (simp only [InR] at *; omega) | skip))
  ((try refine CallT.toA ?_); refine callT_m (by first | exact .inl ⟨rfl, rfl⟩ | exact .inr rfl) (by simp [go_sem]) ?_; intro args ha; simp [go_sem] at ha; subst ha; refine ⟨_, (own_spec t b1 b2 b3), ?_⟩; rintro _ rfl; simp [go_sem]; ((repeat' (first | (refine ag_c ?_; simp [go_sem]) | (refine ag_b ?_; simp [go_sem]) | (refine ag_m ?_; simp [go_sem]) | (refine ag_a ?_; simp [go_sem]) | (refine ag_w ?_; simp [go_sem]) | intro _ | refine And.intro ?_ ?_ | (refine hKK _ ?_; clear hKK KK) | (refine hKK _ _ ?_; clear hKK KK) | refine adr_nil ?_ | ((refine adr_qs fun KK hKK => ?_); simp [go_sem]) | ((refine adr_kp fun KK hKK => ?_); simp [go_sem]) | ((refine adr_one fun KK hKK => ?_); simp [go_sem]) | refine adr_two ?_ ?_ | refine adr_kp2 ?_ ?_ | ((refine adr_sk fun KK hKK => ?_); simp [go_sem]))); all_goals first | (refine Hold.mk ?_) | omega | (with_reducible assumption) | (simp only [InR] at *; omega) | skip))
  rename_i gp
  (refine awp_sr fun KK hKK => ?_; simp [go_sem]; ((repeat' (first | (refine ag_c ?_; simp [go_sem]) | (refine ag_b ?_; simp [go_sem]) | (refine ag_m ?_; simp [go_sem]) | (refine ag_a ?_; simp [go_sem]) | (refine ag_w ?_; simp [go_sem]) | intro _ | refine And.intro ?_ ?_ | (refine hKK _ ?_; clear hKK KK) | (refine hKK _ _ ?_; clear hKK KK) | refine adr_nil ?_ | ((refine adr_qs fun KK hKK => ?_); simp [go_sem]) | ((refine adr_kp fun KK hKK => ?_); simp [go_sem]) | ((refine adr_one fun KK hKK => ?_); simp [go_sem]) | refine adr_two ?_ ?_ | refine adr_kp2 ?_ ?_ | ((refine adr_sk fun KK hKK => ?_); simp [go_sem]))); all_goals first | (refine Hold.mk ?_) | omega | (with_reducible assumption) | (simp only [InR] at *; omega) | skip))
  refine awp_nilbox 78 57 6 1 (sb := 12) rfl rfl (by decide) fun gc => ?_
  simp only [go_sem, List.set]
  refine awp_seq_k fun K7 hK7 => ?_
  (refine awp_sr fun KK hKK => ?_; simp [go_sem]; ((repeat' (first | (refine ag_c ?_; simp [go_sem]) | (refine ag_b ?_; simp [go_sem]) | (refine ag_m ?_; simp [go_sem]) | (refine ag_a ?_; simp [go_sem]) | (refine ag_w ?_; simp [go_sem]) | intro _ | refine And.intro ?_ ?_ | (refine hKK _ ?_; clear hKK KK) | (refine hKK _ _ ?_; clear hKK KK) | refine adr_nil ?_ | ((refine adr_qs fun KK hKK => ?_); simp [go_sem]) | ((refine adr_kp fun KK hKK => ?_); simp [go_sem]) | ((refine adr_one fun KK hKK => ?_); simp [go_sem]) | refine adr_two ?_ ?_ | refine adr_kp2 ?_ ?_ | ((refine adr_sk fun KK hKK => ?_); simp [go_sem]))); all_goals first | (refine Hold.mk ?_) | omega | (with_reducible assumption) | (simp only [InR] at *; omega) | skip))
  refine awp_block ?_
  refine awp_loop (σ := Nat × Nat) (fun x => ⟨[(1, dI fuel), (7, .rd [dI t.regs, .sl 6 (t.code.map cIns), .sl 2 (t.exits.map cExi)]), (8, dIs ws), (11, dI kn), (12, .ptr 12 gp 0), (13, dI x.1)], [(12, gp, .box [dI t.regs, .own 78 x.2, .sl 2 (t.exits.map cExi)]), (78, x.2, .row 57 6 ((stFrom kn ik.d (t.code.take x.1) 0).map cIns))]⟩) (fun x => x.1 ≤ t.code.length) (fun x => t.code.length - x.1) (0, gc) ?_ ?_ ?_
  · (refine cov_of ?_ ?_ <;> simp [go_sem, stFrom])
  · simp
  rintro ⟨i, gc⟩ hi
  simp only at hi
  have hcl := stFrom_len kn ik.d (t.code.take i) 0
  have htl : (t.code.take i).length ≤ 25 := by simp; omega
  refine awp_seq_k fun K8 hK8 => ?_
  (refine awp_sr fun KK hKK => ?_; simp [go_sem]; ((repeat' (first | (refine ag_c ?_; simp [go_sem]) | (refine ag_b ?_; simp [go_sem]) | (refine ag_m ?_; simp [go_sem]) | (refine ag_a ?_; simp [go_sem]) | (refine ag_w ?_; simp [go_sem]) | intro _ | refine And.intro ?_ ?_ | (refine hKK _ ?_; clear hKK KK) | (refine hKK _ _ ?_; clear hKK KK) | refine adr_nil ?_ | ((refine adr_qs fun KK hKK => ?_); simp [go_sem]) | ((refine adr_kp fun KK hKK => ?_); simp [go_sem]) | ((refine adr_one fun KK hKK => ?_); simp [go_sem]) | refine adr_two ?_ ?_ | refine adr_kp2 ?_ ?_ | ((refine adr_sk fun KK hKK => ?_); simp [go_sem]))); all_goals first | (refine Hold.mk ?_) | omega | (with_reducible assumption) | (simp only [InR] at *; omega) | skip))
  (refine awp_if fun T F hT hF => ?_; simp [go_sem]; refine BR.intro (fun h9 => hT ?_) (fun h9 => hF ?_); all_goals clear hT hF T F; try simp at h9)
  · refine awp_skip ?_
    refine hK8 _ ?_; clear hK8
    obtain ⟨x, hx⟩ : ∃ x, t.code[i]? = some x := ⟨_, List.getElem?_eq_getElem (by omega)⟩
    have hstep := stFrom_step kn ik.d hx
    rw [← List.append_assoc] at hstep
    generalize stFrom kn ik.d (t.code.take i) 0 = acc at hcl hstep ⊢
    refine awp_seq_k fun K10 hK10 => ?_
    refine awp_block ?_
    refine awp_seq_k fun K11 hK11 => ?_
    have tl11 : ∀ S' g', Cov S' ⟨[(1, dI fuel), (7, .rd [dI t.regs, .sl 6 (t.code.map cIns), .sl 2 (t.exits.map cExi)]), (8, dIs ws), (11, dI kn), (12, .ptr 12 gp 0), (13, dI i)], [(12, gp, .box [dI t.regs, .own 78 g', .sl 2 (t.exits.map cExi)]), (78, g', .row 57 6 ((acc ++ (if x.op ≠ 10 then [x] else [])).map cIns))]⟩ → K11 S' := fun S' g' hS => by
      refine hK11 _ ?_; clear hK11
      refine awp_cov hS ?_; clear hS
      have hal : (acc ++ (if x.op ≠ 10 then [x] else [])).length ≤ 51 := by simp only [List.length_append]; split <;> simp <;> omega
      generalize acc ++ (if x.op ≠ 10 then [x] else []) = acc1 at hal hstep
      have tl10 : ∀ S' g', Cov S' ⟨[(1, dI fuel), (7, .rd [dI t.regs, .sl 6 (t.code.map cIns), .sl 2 (t.exits.map cExi)]), (8, dIs ws), (11, dI kn), (12, .ptr 12 gp 0), (13, dI i)], [(12, gp, .box [dI t.regs, .own 78 g', .sl 2 (t.exits.map cExi)]), (78, g', .row 57 6 ((acc1 ++ (if i = kn then [(⟨10, 0, ik.d, 0, 0, 0⟩ : Ins)] else [])).map cIns))]⟩ → K10 S' := fun S' g' hS => by
        refine hK10 _ ?_; clear hK10
        refine awp_cov hS ?_; clear hS
        (refine awp_r fun KK hKK => ?_; simp [go_sem]; ((repeat' (first | (refine ag_c ?_; simp [go_sem]) | (refine ag_b ?_; simp [go_sem]) | (refine ag_m ?_; simp [go_sem]) | (refine ag_a ?_; simp [go_sem]) | (refine ag_w ?_; simp [go_sem]) | intro _ | refine And.intro ?_ ?_ | (refine hKK _ ?_; clear hKK KK) | (refine hKK _ _ ?_; clear hKK KK) | refine adr_nil ?_ | ((refine adr_qs fun KK hKK => ?_); simp [go_sem]) | ((refine adr_kp fun KK hKK => ?_); simp [go_sem]) | ((refine adr_one fun KK hKK => ?_); simp [go_sem]) | refine adr_two ?_ ?_ | refine adr_kp2 ?_ ?_ | ((refine adr_sk fun KK hKK => ?_); simp [go_sem]))); all_goals first | (refine Hold.mk ?_) | omega | (with_reducible assumption) | (simp only [InR] at *; omega) | skip))
        refine ⟨(i + 1, g'), ?_, by simp; omega, by simp; omega⟩
        rw [hstep]
        (refine cov_of ?_ ?_ <;> simp [go_sem])
      clear hK10
      (refine awp_sr fun KK hKK => ?_; simp [go_sem]; ((repeat' (first | (refine ag_c ?_; simp [go_sem]) | (refine ag_b ?_; simp [go_sem]) | (refine ag_m ?_; simp [go_sem]) | (refine ag_a ?_; simp [go_sem]) | (refine ag_w ?_; simp [go_sem]) | intro _ | refine And.intro ?_ ?_ | (refine hKK _ ?_; clear hKK KK) | (refine hKK _ _ ?_; clear hKK KK) | refine adr_nil ?_ | ((refine adr_qs fun KK hKK => ?_); simp [go_sem]) | ((refine adr_kp fun KK hKK => ?_); simp [go_sem]) | ((refine adr_one fun KK hKK => ?_); simp [go_sem]) | refine adr_two ?_ ?_ | refine adr_kp2 ?_ ?_ | ((refine adr_sk fun KK hKK => ?_); simp [go_sem]))); all_goals first | (refine Hold.mk ?_) | omega | (with_reducible assumption) | (simp only [InR] at *; omega) | skip))
      (refine awp_if fun T F hT hF => ?_; simp [go_sem]; refine BR.intro (fun h13 => hT ?_) (fun h13 => hF ?_); all_goals clear hT hF T F; try simp at h13)
      · have h13' : i = kn := by omega
        ((refine awp_d (.qs [0, 2, 4, 1, 3, 5, 6, 7, 8] (.kp 9 (.one 10 (.qs [11] (.one 12 (.nil)))))) (by kernel_rfl) ?_ ?_ ?_ ?_); (kernel_rfl); (exact (by decide +kernel)); (kernel_rfl); intro KK hKK; ((repeat' (first | (refine ag_c ?_; simp [go_sem, hik]) | (refine ag_b ?_; simp [go_sem, hik]) | (refine ag_m ?_; simp [go_sem, hik]) | (refine ag_a ?_; simp [go_sem, hik]) | (refine ag_w ?_; simp [go_sem, hik]) | intro _ | refine And.intro ?_ ?_ | (refine hKK _ ?_; clear hKK KK) | (refine hKK _ _ ?_; clear hKK KK) | refine adr_nil ?_ | ((refine adr_qs fun KK hKK => ?_); simp [go_sem, hik]) | ((refine adr_kp fun KK hKK => ?_); simp [go_sem, hik]) | ((refine adr_one fun KK hKK => ?_); simp [go_sem, hik]) | refine adr_two ?_ ?_ | refine adr_kp2 ?_ ?_ | ((refine adr_sk fun KK hKK => ?_); simp [go_sem, hik]))); all_goals first | (refine Hold.mk ?_) | omega | (with_reducible assumption) | (simp only [InR] at *; omega) | skip))
        rename_i ga gb
        refine tl10 _ gb ?_
        rw [if_pos h13']
        (refine cov_of ?_ ?_ <;> simp [go_sem])
      · refine awp_skip ?_
        refine tl10 _ g' ?_
        rw [if_neg (by omega)]
        (refine cov_of ?_ ?_ <;> simp [go_sem])
    clear hK11
    (refine awp_sr fun KK hKK => ?_; simp [go_sem, hx]; ((repeat' (first | (refine ag_c ?_; simp [go_sem, hx]) | (refine ag_b ?_; simp [go_sem, hx]) | (refine ag_m ?_; simp [go_sem, hx]) | (refine ag_a ?_; simp [go_sem, hx]) | (refine ag_w ?_; simp [go_sem, hx]) | intro _ | refine And.intro ?_ ?_ | (refine hKK _ ?_; clear hKK KK) | (refine hKK _ _ ?_; clear hKK KK) | refine adr_nil ?_ | ((refine adr_qs fun KK hKK => ?_); simp [go_sem, hx]) | ((refine adr_kp fun KK hKK => ?_); simp [go_sem, hx]) | ((refine adr_one fun KK hKK => ?_); simp [go_sem, hx]) | refine adr_two ?_ ?_ | refine adr_kp2 ?_ ?_ | ((refine adr_sk fun KK hKK => ?_); simp [go_sem, hx]))); all_goals first | (refine Hold.mk ?_) | omega | (with_reducible assumption) | (simp only [InR] at *; omega) | skip))
    (refine awp_if fun T F hT hF => ?_; simp [go_sem]; refine BR.intro (fun h12 => hT ?_) (fun h12 => hF ?_); all_goals clear hT hF T F; try simp at h12)
    · ((refine awp_d (.qs [0, 2, 4, 1, 3, 5, 6] (.kp 7 (.one 8 (.qs [9] (.one 10 (.nil)))))) (by kernel_rfl) ?_ ?_ ?_ ?_); (kernel_rfl); (exact (by decide +kernel)); (kernel_rfl); intro KK hKK; ((repeat' (first | (refine ag_c ?_; simp [go_sem, hx]) | (refine ag_b ?_; simp [go_sem, hx]) | (refine ag_m ?_; simp [go_sem, hx]) | (refine ag_a ?_; simp [go_sem, hx]) | (refine ag_w ?_; simp [go_sem, hx]) | intro _ | refine And.intro ?_ ?_ | (refine hKK _ ?_; clear hKK KK) | (refine hKK _ _ ?_; clear hKK KK) | refine adr_nil ?_ | ((refine adr_qs fun KK hKK => ?_); simp [go_sem, hx]) | ((refine adr_kp fun KK hKK => ?_); simp [go_sem, hx]) | ((refine adr_one fun KK hKK => ?_); simp [go_sem, hx]) | refine adr_two ?_ ?_ | refine adr_kp2 ?_ ?_ | ((refine adr_sk fun KK hKK => ?_); simp [go_sem, hx]))); all_goals first | (refine Hold.mk ?_) | omega | (with_reducible assumption) | (simp only [InR] at *; omega) | skip))
      rename_i ga gb
      refine tl11 _ gb ?_
      rw [if_pos (by omega)]
      (refine cov_of ?_ ?_ <;> simp [go_sem])
    · refine awp_skip ?_
      refine tl11 _ gc ?_
      rw [if_neg (by omega)]
      (refine cov_of ?_ ?_ <;> simp [go_sem])
  · refine awp_exit ?_
    simp only [go_sem]
    refine hK7 _ ?_; clear hK7
    have : i = t.code.length := by omega
    subst this
    rw [List.take_length]
    have hpok := stTr_ok (k := kn) (D := ik.d) hok hc25 hd
    have hpl : (stTr t kn ik.d).code.length ≤ 500 := by have := (trOk_regs hpok).2.2.1; omega
    have hfit : fitOk (stTr t kn ik.d) ws n = true := by
      have h1 := hF.len
      have h2 := hF.words
      simp [fitOk, hpok, h2, hn.1]
      refine ⟨by simp [stTr, h1], by omega⟩
    obtain ⟨r, hr⟩ : ∃ r, runV (stTr t kn ik.d) ws n = r := ⟨_, rfl⟩
    have htold : ∀ x ∈ r.told, x = cS t.code ws kn := by
      rw [← hr]
      simp only [runV, hfit, if_true]
      exact goRounds_steady (ws0 := ws) hok hmem hik rfl _ _ _ _ ⟨hF.len, fun _ _ _ => rfl, fun m i hm => by omega⟩ (by simp)
    (refine awp_sr fun KK hKK => ?_; simp [go_sem]; ((repeat' (first | (refine ag_c ?_; simp [go_sem]) | (refine ag_b ?_; simp [go_sem]) | (refine ag_m ?_; simp [go_sem]) | (refine ag_a ?_; simp [go_sem]) | (refine ag_w ?_; simp [go_sem]) | intro _ | refine And.intro ?_ ?_ | (refine hKK _ ?_; clear hKK KK) | (refine hKK _ _ ?_; clear hKK KK) | refine adr_nil ?_ | ((refine adr_qs fun KK hKK => ?_); simp [go_sem]) | ((refine adr_kp fun KK hKK => ?_); simp [go_sem]) | ((refine adr_one fun KK hKK => ?_); simp [go_sem]) | refine adr_two ?_ ?_ | refine adr_kp2 ?_ ?_ | ((refine adr_sk fun KK hKK => ?_); simp [go_sem]))); all_goals first | (refine Hold.mk ?_) | omega | (with_reducible assumption) | (simp only [InR] at *; omega) | skip))
    ((try refine CallT.toA ?_); refine callT_z (by first | exact .inl ⟨rfl, rfl⟩ | exact .inr rfl) rfl (by simp [go_sem]) (by simp [go_sem]) ?_; intro args ha; simp [go_sem] at ha; subst ha; refine ⟨_, (back_spec (stTr t kn ik.d) hpl b2 b3), ?_⟩; rintro _ rfl; simp [go_sem, en]; ((repeat' (first | (refine ag_c ?_; simp [go_sem, en]) | (refine ag_b ?_; simp [go_sem, en]) | (refine ag_m ?_; simp [go_sem, en]) | (refine ag_a ?_; simp [go_sem, en]) | (refine ag_w ?_; simp [go_sem, en]) | intro _ | refine And.intro ?_ ?_ | (refine hKK _ ?_; clear hKK KK) | (refine hKK _ _ ?_; clear hKK KK) | refine adr_nil ?_ | ((refine adr_qs fun KK hKK => ?_); simp [go_sem, en]) | ((refine adr_kp fun KK hKK => ?_); simp [go_sem, en]) | ((refine adr_one fun KK hKK => ?_); simp [go_sem, en]) | refine adr_two ?_ ?_ | refine adr_kp2 ?_ ?_ | ((refine adr_sk fun KK hKK => ?_); simp [go_sem, en]))); all_goals first | (refine Hold.mk ?_) | omega | (with_reducible assumption) | (simp only [InR] at *; omega) | skip))
    ((try refine CallT.toA ?_); refine callT_m (by first | exact .inl ⟨rfl, rfl⟩ | exact .inr rfl) (by simp [go_sem]) ?_; intro args ha; simp [go_sem] at ha; subst ha; refine ⟨_, (run_spec (stTr t kn ik.d) ws n), ?_⟩; rintro _ rfl; simp [go_sem, hr, hfit]; ((repeat' (first | (refine ag_c ?_; simp [go_sem, hr, hfit]) | (refine ag_b ?_; simp [go_sem, hr, hfit]) | (refine ag_m ?_; simp [go_sem, hr, hfit]) | (refine ag_a ?_; simp [go_sem, hr, hfit]) | (refine ag_w ?_; simp [go_sem, hr, hfit]) | intro _ | refine And.intro ?_ ?_ | (refine hKK _ ?_; clear hKK KK) | (refine hKK _ _ ?_; clear hKK KK) | refine adr_nil ?_ | ((refine adr_qs fun KK hKK => ?_); simp [go_sem, hr, hfit]) | ((refine adr_kp fun KK hKK => ?_); simp [go_sem, hr, hfit]) | ((refine adr_one fun KK hKK => ?_); simp [go_sem, hr, hfit]) | refine adr_two ?_ ?_ | refine adr_kp2 ?_ ?_ | ((refine adr_sk fun KK hKK => ?_); simp [go_sem, hr, hfit]))); all_goals first | (refine Hold.mk ?_) | omega | (with_reducible assumption) | (simp only [InR] at *; omega) | skip))
    rename_i gr
    refine awp_frzbox 14 rfl rfl ?_
    simp only [go_sem]
    refine awp_seq_k fun K14 hK14 => ?_
    (refine awp_sr fun KK hKK => ?_; simp [go_sem]; ((repeat' (first | (refine ag_c ?_; simp [go_sem]) | (refine ag_b ?_; simp [go_sem]) | (refine ag_m ?_; simp [go_sem]) | (refine ag_a ?_; simp [go_sem]) | (refine ag_w ?_; simp [go_sem]) | intro _ | refine And.intro ?_ ?_ | (refine hKK _ ?_; clear hKK KK) | (refine hKK _ _ ?_; clear hKK KK) | refine adr_nil ?_ | ((refine adr_qs fun KK hKK => ?_); simp [go_sem]) | ((refine adr_kp fun KK hKK => ?_); simp [go_sem]) | ((refine adr_one fun KK hKK => ?_); simp [go_sem]) | refine adr_two ?_ ?_ | refine adr_kp2 ?_ ?_ | ((refine adr_sk fun KK hKK => ?_); simp [go_sem]))); all_goals first | (refine Hold.mk ?_) | omega | (with_reducible assumption) | (simp only [InR] at *; omega) | skip))
    (refine awp_if fun T F hT hF => ?_; simp [go_sem]; refine hF ?_; clear hT hF T F)
    refine awp_skip ?_
    refine hK14 _ ?_; clear hK14
    refine awp_len 14 rfl fun hlen => ?_
    simp [lensD, lensC] at hlen
    refine awp_seq_k fun K15 hK15 => ?_
    (refine awp_sr fun KK hKK => ?_; simp [go_sem]; ((repeat' (first | (refine ag_c ?_; simp [go_sem]) | (refine ag_b ?_; simp [go_sem]) | (refine ag_m ?_; simp [go_sem]) | (refine ag_a ?_; simp [go_sem]) | (refine ag_w ?_; simp [go_sem]) | intro _ | refine And.intro ?_ ?_ | (refine hKK _ ?_; clear hKK KK) | (refine hKK _ _ ?_; clear hKK KK) | refine adr_nil ?_ | ((refine adr_qs fun KK hKK => ?_); simp [go_sem]) | ((refine adr_kp fun KK hKK => ?_); simp [go_sem]) | ((refine adr_one fun KK hKK => ?_); simp [go_sem]) | refine adr_two ?_ ?_ | refine adr_kp2 ?_ ?_ | ((refine adr_sk fun KK hKK => ?_); simp [go_sem]))); all_goals first | (refine Hold.mk ?_) | omega | (with_reducible assumption) | (simp only [InR] at *; omega) | skip))
    refine awp_block ?_
    refine awp_loop (σ := Nat) (fun j => ⟨[(14, .rd [dI r.exit, dI r.back, dI r.rounds, dIs r.slots, dIs r.told]), (16, dI j)], []⟩) (fun j => 1 ≤ j) (fun j => r.told.length - j) 1 ?_ ?_ ?_
    · (refine cov_of ?_ ?_ <;> simp [go_sem])
    · simp
    rintro j hj
    refine awp_seq_k fun K16 hK16 => ?_
    (refine awp_sr fun KK hKK => ?_; simp [go_sem]; ((repeat' (first | (refine ag_c ?_; simp [go_sem]) | (refine ag_b ?_; simp [go_sem]) | (refine ag_m ?_; simp [go_sem]) | (refine ag_a ?_; simp [go_sem]) | (refine ag_w ?_; simp [go_sem]) | intro _ | refine And.intro ?_ ?_ | (refine hKK _ ?_; clear hKK KK) | (refine hKK _ _ ?_; clear hKK KK) | refine adr_nil ?_ | ((refine adr_qs fun KK hKK => ?_); simp [go_sem]) | ((refine adr_kp fun KK hKK => ?_); simp [go_sem]) | ((refine adr_one fun KK hKK => ?_); simp [go_sem]) | refine adr_two ?_ ?_ | refine adr_kp2 ?_ ?_ | ((refine adr_sk fun KK hKK => ?_); simp [go_sem]))); all_goals first | (refine Hold.mk ?_) | omega | (with_reducible assumption) | (simp only [InR] at *; omega) | skip))
    (refine awp_if fun T F hT hF => ?_; simp [go_sem]; refine BR.intro (fun h17 => hT ?_) (fun h17 => hF ?_); all_goals clear hT hF T F; try simp at h17)
    · refine awp_skip ?_
      refine hK16 _ ?_; clear hK16
      obtain ⟨x, hx⟩ : ∃ x, r.told[j]? = some x := ⟨_, List.getElem?_eq_getElem (by omega)⟩
      obtain ⟨y, hy⟩ : ∃ x, r.told[0]? = some x := ⟨_, List.getElem?_eq_getElem (by omega)⟩
      have hxy : x = y := (htold x (List.mem_of_getElem? hx)).trans (htold y (List.mem_of_getElem? hy)).symm
      subst hxy
      refine awp_seq_k fun K18 hK18 => ?_
      refine awp_block ?_
      ((refine awp_dr (.qs [0, 2, 5, 1, 3, 4, 6, 7, 8, 9] (.nil)) (by kernel_rfl) ?_ ?_ ?_ ?_); (kernel_rfl); (exact (by decide +kernel)); (kernel_rfl); intro KK hKK; ((repeat' (first | (refine ag_c ?_; simp [go_sem, hx, hy]) | (refine ag_b ?_; simp [go_sem, hx, hy]) | (refine ag_m ?_; simp [go_sem, hx, hy]) | (refine ag_a ?_; simp [go_sem, hx, hy]) | (refine ag_w ?_; simp [go_sem, hx, hy]) | intro _ | refine And.intro ?_ ?_ | (refine hKK _ ?_; clear hKK KK) | (refine hKK _ _ ?_; clear hKK KK) | refine adr_nil ?_ | ((refine adr_qs fun KK hKK => ?_); simp [go_sem, hx, hy]) | ((refine adr_kp fun KK hKK => ?_); simp [go_sem, hx, hy]) | ((refine adr_one fun KK hKK => ?_); simp [go_sem, hx, hy]) | refine adr_two ?_ ?_ | refine adr_kp2 ?_ ?_ | ((refine adr_sk fun KK hKK => ?_); simp [go_sem, hx, hy]))); all_goals first | (refine Hold.mk ?_) | omega | (with_reducible assumption) | (simp only [InR] at *; omega) | skip))
      (refine awp_if fun T F hT hF => ?_; simp [go_sem]; refine hF ?_; clear hT hF T F)
      refine awp_skip ?_
      simp only [go_sem]
      refine hK18 _ ?_; clear hK18
      (refine awp_r fun KK hKK => ?_; simp [go_sem]; ((repeat' (first | (refine ag_c ?_; simp [go_sem]) | (refine ag_b ?_; simp [go_sem]) | (refine ag_m ?_; simp [go_sem]) | (refine ag_a ?_; simp [go_sem]) | (refine ag_w ?_; simp [go_sem]) | intro _ | refine And.intro ?_ ?_ | (refine hKK _ ?_; clear hKK KK) | (refine hKK _ _ ?_; clear hKK KK) | refine adr_nil ?_ | ((refine adr_qs fun KK hKK => ?_); simp [go_sem]) | ((refine adr_kp fun KK hKK => ?_); simp [go_sem]) | ((refine adr_one fun KK hKK => ?_); simp [go_sem]) | refine adr_two ?_ ?_ | refine adr_kp2 ?_ ?_ | ((refine adr_sk fun KK hKK => ?_); simp [go_sem]))); all_goals first | (refine Hold.mk ?_) | omega | (with_reducible assumption) | (simp only [InR] at *; omega) | skip))
      refine ⟨j + 1, ?_, by omega, by omega⟩
      (refine cov_of ?_ ?_ <;> simp [go_sem])
    · refine awp_exit ?_
      simp only [go_sem]
      refine hK15 _ ?_; clear hK15
      (refine awp_sr fun KK hKK => ?_; simp [go_sem]; ((repeat' (first | (refine ag_c ?_; simp [go_sem]) | (refine ag_b ?_; simp [go_sem]) | (refine ag_m ?_; simp [go_sem]) | (refine ag_a ?_; simp [go_sem]) | (refine ag_w ?_; simp [go_sem]) | intro _ | refine And.intro ?_ ?_ | (refine hKK _ ?_; clear hKK KK) | (refine hKK _ _ ?_; clear hKK KK) | refine adr_nil ?_ | ((refine adr_qs fun KK hKK => ?_); simp [go_sem]) | ((refine adr_kp fun KK hKK => ?_); simp [go_sem]) | ((refine adr_one fun KK hKK => ?_); simp [go_sem]) | refine adr_two ?_ ?_ | refine adr_kp2 ?_ ?_ | ((refine adr_sk fun KK hKK => ?_); simp [go_sem]))); all_goals first | (refine Hold.mk ?_) | omega | (with_reducible assumption) | (simp only [InR] at *; omega) | skip))
      ((try refine CallT.toA ?_); refine callT_f (by first | exact .inl ⟨rfl, rfl⟩ | exact .inr rfl) ?_; intro args ha; simp [go_sem] at ha; subst ha; refine ⟨_, sane_spec, ?_⟩; rintro _ rfl; refine ⟨rfl, ?_⟩; simp [go_sem]; ((repeat' (first | (refine ag_c ?_; simp [go_sem]) | (refine ag_b ?_; simp [go_sem]) | (refine ag_m ?_; simp [go_sem]) | (refine ag_a ?_; simp [go_sem]) | (refine ag_w ?_; simp [go_sem]) | intro _ | refine And.intro ?_ ?_ | (refine hKK _ ?_; clear hKK KK) | (refine hKK _ _ ?_; clear hKK KK) | refine adr_nil ?_ | ((refine adr_qs fun KK hKK => ?_); simp [go_sem]) | ((refine adr_kp fun KK hKK => ?_); simp [go_sem]) | ((refine adr_one fun KK hKK => ?_); simp [go_sem]) | refine adr_two ?_ ?_ | refine adr_kp2 ?_ ?_ | ((refine adr_sk fun KK hKK => ?_); simp [go_sem]))); all_goals first | (refine Hold.mk ?_) | omega | (with_reducible assumption) | (simp only [InR] at *; omega) | skip))
      (refine awp_ret ?_; simp [go_sem])
end Go.Proofs.Ytmgbaegdkjcagaa
