/- Part of a proof: see the last text. -/
import Derived.Test.YtmgbaegdkjcagaaWB
import Derived.Test.YtmgbaegdkjcagaaWA
import Derived.Test.YtmgbaegdkjcagaaED
set_option linter.unusedVariables false
set_option linter.unusedSimpArgs false
namespace Go.Proofs.Ytmgbaegdkjcagaa
open Go.Eng
set_option maxRecDepth 20000
attribute [local irreducible] AG CallA CallT AWp PCall ACall AgC

theorem insOk_at {t : Tr} {k : Nat} {x : Ins} (h : trOk t = true) (hx : t.code[k]? = some x) : insOk t.regs t.exits.length x = true := by
  simp only [trOk, Bool.and_eq_true, List.all_eq_true] at h
  exact h.1.2 x (List.mem_of_getElem? hx)
theorem exOk_at {t : Tr} {k : Nat} {e : Exi} (h : trOk t = true) (hx : t.exits[k]? = some e) : (∀ s ∈ e.slots, 0 ≤ s ∧ s < t.regs) ∧ e.slots.length ≤ 20 := by
  simp only [trOk, Bool.and_eq_true, List.all_eq_true] at h
  have := h.2 e (List.mem_of_getElem? hx)
  simp [exOk, slotBad] at this
  exact ⟨fun s hs => by have := this.2 s hs; omega, by omega⟩
theorem drop_at {α : Type} {l : List α} {k : Nat} {x : α} (h : l[k]? = some x) : l.drop k = x :: l.drop (k + 1) := by
  obtain ⟨hk, rfl⟩ := List.getElem?_eq_some_iff.1 h
  exact List.drop_eq_getElem_cons hk
theorem goCode_at {l : List Ins} {k : Nat} {x : Ins} {ws told : List Int} (h : l[k]? = some x) :
    goCode (l.drop k) ws told = if (stepV x ws).2.2.1 then ((stepV x ws).2.2.2, if (stepV x ws).2.1 && decide (told.length < 2000) then told ++ [(stepV x ws).1] else told, some x.x)
      else goCode (l.drop (k + 1)) (stepV x ws).2.2.2 (if (stepV x ws).2.1 && decide (told.length < 2000) then told ++ [(stepV x ws).1] else told) := by
  rw [drop_at h]; rfl
theorem stepV_val {i : Ins} {ws : List Int} (h1 : 0 ≤ i.op) (h2 : i.op ≤ 10) (h : ¬ i.op = 0) (h9 : ¬ i.op = 9) (h10 : ¬ i.op = 10) :
    stepV i ws = if (valP i.op (wAt ws i.a) (wAt ws i.b)).2 then (0, false, false, ws.set i.d.toNat (valP i.op (wAt ws i.a) (wAt ws i.b)).1) else (0, false, true, ws) := by
  by_cases hm : i.op = 1
  · simp [stepV, hm, valP]
  · rw [val_eq (by omega) (by omega)]
    simp [stepV, h, h9, h10, hm]
theorem valP_exit {op a b : Int} (h1 : 0 ≤ op) (h2 : op ≤ 10) (h : ¬ op = 0) (h9 : ¬ op = 9) (h10 : ¬ op = 10) (hv : (valP op a b).2 = false) : 2 ≤ op ∧ op ≤ 6 := by
  refine Decidable.byContradiction fun hc => ?_
  have : op = 1 ∨ op = 7 ∨ op = 8 := by omega
  rcases this with e | e | e <;> subst e <;> simp [valP] at hv
def after (t : Tr) (N r : Nat) (x : List Int × List Int × Option Int) : Res :=
  match x with
  | (ws', told', some x) => leave t x r ws' told'
  | (ws', told', none) => goRounds t N r ws' told'
theorem rounds_succ (t : Tr) (n r : Nat) (ws told : List Int) : goRounds t (n + 1) r ws told = after t n (r + 1) (goCode t.code ws told) := rfl

theorem run_spec (t : Tr) (ws : List Int) (fuel : Int) : PCall Try.prog 17 [dTr t, dIs ws, dI fuel] fun r => r = .tup [dRes (runV t ws fuel), dI (if fitOk t ws fuel then 0 else 1)] := by 
  refine pcall_of Try.func17 rfl rfl Try.ntmps17 (rs := [.cell 6 35, .tmp 7]) (tys := [35, 36]) rfl rfl (by simp) ?_
  (refine awp_sr fun KK hKK => ?_; simp [go_sem]; ((repeat' (first|(refine ag_x ?_;simp [go_sem])|intro _|refine And.intro ?_ ?_|(apply hKK;clear hKK KK)));all_goals first|refine Hold.mk ?_|omega|with_reducible assumption|(simp only [InR] at *;omega)|skip))
  rename_i g1 g2
  refine awp_frzbox 3 rfl rfl ?_
  simp only [go_sem]
  refine awp_seq_k fun K1 hK1 => ?_
  (refine awp_sr fun KK hKK => ?_; simp [go_sem]; ((repeat' (first|(refine ag_x ?_;simp [go_sem])|intro _|refine And.intro ?_ ?_|(apply hKK;clear hKK KK)));all_goals first|refine Hold.mk ?_|omega|with_reducible assumption|(simp only [InR] at *;omega)|skip))
  ((try refine CallT.toA ?_); refine callT_m (by first | exact .inl ⟨rfl, rfl⟩ | exact .inr rfl) (by simp [go_sem]) ?_; intro args ha; simp [go_sem] at ha; subst ha; refine ⟨_, (check_spec _), ?_⟩; rintro _ rfl; simp [go_sem]; ((repeat' (first|(refine ag_x ?_;simp [go_sem])|intro _|refine And.intro ?_ ?_|(apply hKK;clear hKK KK)));all_goals first|refine Hold.mk ?_|omega|with_reducible assumption|(simp only [InR] at *;omega)|skip))
  (refine agc_f (dB (ws.any fun n => !isW n)) (by first | exact .inl ⟨rfl, rfl⟩ | exact .inr rfl) ?_ rfl ?_; (intro hc args ha; simp [go_sem] at ha; subst ha; exact (containsF_spec _ _ 38 [] (fun n => !isW n) (.inl ⟨rfl, rfl⟩) (fun n _ => run1_spec n) (by simp at hc; have := trOk_regs hc.1.1.1; omega))); simp [go_sem]; ((repeat' (first|(refine ag_x ?_;simp [go_sem])|intro _|refine And.intro ?_ ?_|(apply hKK;clear hKK KK)));all_goals first|refine Hold.mk ?_|omega|with_reducible assumption|(simp only [InR] at *;omega)|skip))
  (refine awp_if fun T F hT hF => ?_; simp [go_sem]; refine BR.intro (fun h2 => hT ?_) (fun h2 => hF ?_); all_goals clear hT hF T F; try simp at h2) 
  · (refine awp_sr fun KK hKK => ?_; simp [go_sem]; ((repeat' (first|(refine ag_x ?_;simp [go_sem])|intro _|refine And.intro ?_ ?_|(apply hKK;clear hKK KK)));all_goals first|refine Hold.mk ?_|omega|with_reducible assumption|(simp only [InR] at *;omega)|skip))
    (refine awp_ret ?_; simp [go_sem, h2])
    have : fitOk t ws fuel = false := by
      rcases h2 with (((h | h) | h) | h) | h <;> simp [fitOk, h] <;> intros <;> first | omega | simp_all
    simp [this, runV]
  · have hf : fitOk t ws fuel = true := by
      simp [fitOk]; refine ⟨⟨h2.1.1.1, ?_⟩, h2.2⟩; omega
    refine awp_skip ?_
    refine hK1 _ ?_; clear hK1
    have hreg := trOk_regs h2.1.1.1.1
    have hwl : (ws.length : Int) = t.regs := h2.1.1.1.2
    (refine awp_sr fun KK hKK => ?_; simp [go_sem]; ((repeat' (first|(refine ag_x ?_;simp [go_sem])|intro _|refine And.intro ?_ ?_|(apply hKK;clear hKK KK)));all_goals first|refine Hold.mk ?_|omega|with_reducible assumption|(simp only [InR] at *;omega)|skip))
    (refine callA_l [800000] (by first | exact .inl ⟨rfl, rfl⟩ | exact .inr rfl) (by simp [go_sem]) ?_; intro args ha; simp [go_sem] at ha; subst ha; refine ⟨_, _, (clone_spec ws (by omega) (by intro h; subst h; simp at hwl; omega)), (by simp [go_sem]), ?_⟩; rintro ps r hps ⟨gw, rfl, rfl⟩; simp [go_sem]; ((repeat' (first|(refine ag_x ?_;simp [go_sem])|intro _|refine And.intro ?_ ?_|(apply hKK;clear hKK KK)));all_goals first|refine Hold.mk ?_|omega|with_reducible assumption|(simp only [InR] at *;omega)|skip))
    (refine awp_sr fun KK hKK => ?_; simp [go_sem]; ((repeat' (first|(refine ag_x ?_;simp [go_sem])|intro _|refine And.intro ?_ ?_|(apply hKK;clear hKK KK)));all_goals first|refine Hold.mk ?_|omega|with_reducible assumption|(simp only [InR] at *;omega)|skip))
    rename_i gr
    refine awp_nilbox 123 3 1 4 (sb := 9) rfl rfl (by decide) fun gt => ?_
    simp only [go_sem, List.set]
    refine awp_seq_k fun K3 hK3 => ?_
    refine awp_block ?_
    refine awp_loop (σ := Nat × List Int × List Int × Nat × Nat) (fun x => ⟨[(2, dI fuel), (3, .rd [dI t.regs, .sl 6 (t.code.map cIns), .sl 2 (t.exits.map cExi)]), (6, .ptr 6 g2 0), (8, .own 800000 x.2.2.2.1), (9, .ptr 9 gr 0)],
      [(6, g2, .box [dI 0, dI 0, dI 0, .v (.slice none 0 0), .v (.slice none 0 0)]), (800000, x.2.2.2.1, .row 3 1 (x.2.1.map cI)), (9, gr, .box [dI 0, dI 0, dI x.1, .v (.slice none 0 0), .own 123 x.2.2.2.2]), (123, x.2.2.2.2, .row 3 1 (x.2.2.1.map cI))]⟩)
      (fun x => (x.1 : Int) ≤ fuel ∧ x.2.1.length = ws.length ∧ (∀ y ∈ x.2.1, isW y = true) ∧ x.2.2.1.length ≤ 2000 ∧ goRounds t (fuel.toNat - x.1) x.1 x.2.1 x.2.2.1 = runV t ws fuel) (fun x => fuel.toNat - x.1) (0, ws, [], gw, gt) ?_ ?_ ?_
    · (refine cov_of ?_ ?_ <;> simp [go_sem])
    · simp [runV, hf]; exact ⟨h2.1.1.2, h2.2⟩
    rintro ⟨r, w, told, gw, gt⟩ ⟨hr, hwl', hww, htl, hA⟩
    simp only at hr hwl' hww htl hA
    refine awp_seq_k fun K4 hK4 => ?_
    (refine awp_sr fun KK hKK => ?_; simp [go_sem]; ((repeat' (first|(refine ag_x ?_;simp [go_sem])|intro _|refine And.intro ?_ ?_|(apply hKK;clear hKK KK)));all_goals first|refine Hold.mk ?_|omega|with_reducible assumption|(simp only [InR] at *;omega)|skip))
    (refine awp_if fun T F hT hF => ?_; simp [go_sem]; refine BR.intro (fun h5 => hT ?_) (fun h5 => hF ?_); all_goals clear hT hF T F; try simp at h5) 
    · refine awp_skip ?_
      refine hK4 _ ?_; clear hK4
      refine awp_block ?_
      (refine awp_sr fun KK hKK => ?_; simp [go_sem]; ((repeat' (first|(refine ag_x ?_;simp [go_sem])|intro _|refine And.intro ?_ ?_|(apply hKK;clear hKK KK)));all_goals first|refine Hold.mk ?_|omega|with_reducible assumption|(simp only [InR] at *;omega)|skip))
      (refine awp_sr fun KK hKK => ?_; simp [go_sem]; ((repeat' (first|(refine ag_x ?_;simp [go_sem])|intro _|refine And.intro ?_ ?_|(apply hKK;clear hKK KK)));all_goals first|refine Hold.mk ?_|omega|with_reducible assumption|(simp only [InR] at *;omega)|skip))
      refine awp_block ?_
      obtain ⟨m, hm⟩ : ∃ m, fuel.toNat - r = m + 1 := ⟨fuel.toNat - r - 1, by omega⟩
      rw [hm, rounds_succ] at hA
      refine awp_loop (σ := Nat × List Int × List Int × Nat × Nat) (fun x => ⟨[(2, dI fuel), (3, .rd [dI t.regs, .sl 6 (t.code.map cIns), .sl 2 (t.exits.map cExi)]), (6, .ptr 6 g2 0), (8, .own 800000 x.2.2.2.1), (9, .ptr 9 gr 0), (48, .sl 6 (t.code.map cIns)), (49, dI t.code.length), (50, dI x.1)],
        [(6, g2, .box [dI 0, dI 0, dI 0, .v (.slice none 0 0), .v (.slice none 0 0)]), (800000, x.2.2.2.1, .row 3 1 (x.2.1.map cI)), (9, gr, .box [dI 0, dI 0, dI (r + 1 : Int), .v (.slice none 0 0), .own 123 x.2.2.2.2]), (123, x.2.2.2.2, .row 3 1 (x.2.2.1.map cI))]⟩)
        (fun x => x.1 ≤ t.code.length ∧ x.2.1.length = ws.length ∧ (∀ y ∈ x.2.1, isW y = true) ∧ x.2.2.1.length ≤ 2000 ∧ after t m (r + 1) (goCode (t.code.drop x.1) x.2.1 x.2.2.1) = runV t ws fuel) (fun x => t.code.length - x.1) (0, w, told, gw, gt) ?_ ?_ ?_
      · (refine cov_of ?_ ?_ <;> simp [go_sem])
      · simp; exact ⟨hwl', hww, htl, hA⟩
      clear hA hww htl hwl'
      rintro ⟨k, w, told, gw, gt⟩ ⟨hk, hwl', hww, htl, hA⟩
      simp only at hk hwl' hww htl hA
      (refine awp_sr fun KK hKK => ?_; simp [go_sem]; ((repeat' (first|(refine ag_x ?_;simp [go_sem])|intro _|refine And.intro ?_ ?_|(apply hKK;clear hKK KK)));all_goals first|refine Hold.mk ?_|omega|with_reducible assumption|(simp only [InR] at *;omega)|skip))
      refine awp_seq_k fun K6 hK6 => ?_
      (refine awp_if fun T F hT hF => ?_; simp [go_sem]; refine BR.intro (fun h7 => hT ?_) (fun h7 => hF ?_); all_goals clear hT hF T F; try simp at h7) 
      · refine awp_skip ?_
        refine hK6 _ ?_; clear hK6
        obtain ⟨x, hx⟩ : ∃ x, t.code[k]? = some x := ⟨_, List.getElem?_eq_getElem h7⟩
        have hins := insOk_at h2.1.1.1.1 hx
        obtain ⟨ho1, ho2, ha, hb, hd, hn⟩ := insOk_regs hins hreg.1
        obtain ⟨va, hva⟩ : ∃ v, w[x.a.toNat]? = some v := ⟨_, List.getElem?_eq_getElem (by omega)⟩
        obtain ⟨vb, hvb⟩ : ∃ v, w[x.b.toNat]? = some v := ⟨_, List.getElem?_eq_getElem (by omega)⟩
        obtain ⟨vd, hvd⟩ : ∃ v, w[x.d.toNat]? = some v := ⟨_, List.getElem?_eq_getElem (by omega)⟩
        have hwa := hww va (List.mem_of_getElem? hva)
        have hwb := hww vb (List.mem_of_getElem? hvb)
        have ea : wAt w x.a = va := by simp [wAt, List.getD, hva]
        have eb : wAt w x.b = vb := by simp [wAt, List.getD, hvb]
        obtain ⟨hsl, hsw⟩ := step_words hins hreg.1 (ws := w) (by omega) hww
        rw [goCode_at hx] at hA
        have hpw : ∀ e, x.x.toNat < t.exits.length → t.exits[x.x.toNat]? = some e → (∀ s ∈ e.slots, 0 ≤ s ∧ s < w.length) ∧ e.slots.length ≤ 20 := fun e h1 h2' => by
          have := exOk_at h2.1.1.1.1 h2'
          exact ⟨fun s hs => by have := this.1 s hs; omega, this.2⟩
        refine awp_seq_k fun K8 hK8 => ?_
        refine awp_block ?_
        (refine awp_sr fun KK hKK => ?_; simp [go_sem, hx]; ((repeat' (first|(refine ag_x ?_;simp [go_sem, hx])|intro _|refine And.intro ?_ ?_|(apply hKK;clear hKK KK)));all_goals first|refine Hold.mk ?_|omega|with_reducible assumption|(simp only [InR] at *;omega)|skip))
        (refine awp_sr fun KK hKK => ?_; simp [go_sem]; ((repeat' (first|(refine ag_x ?_;simp [go_sem])|intro _|refine And.intro ?_ ?_|(apply hKK;clear hKK KK)));all_goals first|refine Hold.mk ?_|omega|with_reducible assumption|(simp only [InR] at *;omega)|skip))
        refine awp_block ?_
        (refine awp_sr fun KK hKK => ?_; simp [go_sem]; ((repeat' (first|(refine ag_x ?_;simp [go_sem])|intro _|refine And.intro ?_ ?_|(apply hKK;clear hKK KK)));all_goals first|refine Hold.mk ?_|omega|with_reducible assumption|(simp only [InR] at *;omega)|skip))
        (refine awp_if fun T F hT hF => ?_; simp [go_sem]; refine BR.intro (fun h9 => hT ?_) (fun h9 => hF ?_); all_goals clear hT hF T F; try simp at h9) 
        · (refine awp_r fun KK hKK => ?_; simp [go_sem, hvd]; ((repeat' (first|(refine ag_x ?_;simp [go_sem, hvd])|intro _|refine And.intro ?_ ?_|(apply hKK;clear hKK KK)));all_goals first|refine Hold.mk ?_|omega|with_reducible assumption|(simp only [InR] at *;omega)|skip))
          refine hK8 _ ?_; clear hK8
          have es : stepV x w = (0, false, false, w.set x.d.toNat x.n) := by simp [stepV, h9]
          rw [es] at hA hsl hsw
          (refine awp_r fun KK hKK => ?_; simp [go_sem]; ((repeat' (first|(refine ag_x ?_;simp [go_sem])|intro _|refine And.intro ?_ ?_|(apply hKK;clear hKK KK)));all_goals first|refine Hold.mk ?_|omega|with_reducible assumption|(simp only [InR] at *;omega)|skip))
          refine ⟨(k + 1, w.set x.d.toNat x.n, told, gw, gt), ?_, ⟨h7, by simpa using hsl.trans hwl', hsw, htl, by simpa using hA⟩, by simp; omega⟩
          (refine cov_of ?_ ?_ <;> simp [go_sem])
        · (refine awp_sr fun KK hKK => ?_; simp [go_sem]; ((repeat' (first|(refine ag_x ?_;simp [go_sem])|intro _|refine And.intro ?_ ?_|(apply hKK;clear hKK KK)));all_goals first|refine Hold.mk ?_|omega|with_reducible assumption|(simp only [InR] at *;omega)|skip))
          (refine awp_if fun T F hT hF => ?_; simp [go_sem]; refine BR.intro (fun h10 => hT ?_) (fun h10 => hF ?_); all_goals clear hT hF T F; try simp at h10) 
          · have hxx := insOk_exit hins (.inr h10)
            obtain ⟨xn, hxn⟩ : ∃ n : Nat, x.x = n := ⟨x.x.toNat, by omega⟩
            obtain ⟨e, he⟩ : ∃ e, t.exits[xn]? = some e := ⟨_, List.getElem?_eq_getElem (by omega)⟩
            have hpe := hpw e (by omega) (by rw [hxn]; exact he)
            have es : stepV x w = (0, false, !decide (va = x.n), w) := by simp [stepV, h10, ea]
            rw [es] at hA
            ((refine awp_dr (.qs [0, 1, 5, 2, 3, 4, 6, 7] (.nil)) (by kernel_rfl) ?_ ?_ ?_ ?_); (kernel_rfl); (exact (by decide +kernel)); (kernel_rfl); intro KK hKK; ((repeat' (first|(refine ag_x ?_;simp [go_sem, hva])|refine adr_nil ?_|refine adr_two ?_ ?_|refine adr_kp2 ?_ ?_|((first|refine adr_qs fun KK hKK=>?_|refine adr_y fun KK hKK=>?_);simp [go_sem, hva])|intro _|refine And.intro ?_ ?_|(apply hKK;clear hKK KK)));all_goals first|refine Hold.mk ?_|omega|with_reducible assumption|(simp only [InR] at *;omega)|skip))
            (refine awp_if fun T F hT hF => ?_; simp [go_sem]; refine BR.intro (fun h11 => hT ?_) (fun h11 => hF ?_); all_goals clear hT hF T F; try simp at h11) 
            · (refine awp_sr fun KK hKK => ?_; simp [go_sem, hxn]; ((repeat' (first|(refine ag_x ?_;simp [go_sem, hxn])|intro _|refine And.intro ?_ ?_|(apply hKK;clear hKK KK)));all_goals first|refine Hold.mk ?_|omega|with_reducible assumption|(simp only [InR] at *;omega)|skip))
              refine CallT.toA (CallT.tys [25, 3, 3, 26] ?_)
              ((try refine CallT.toA ?_); refine callT_z (by first | exact .inl ⟨rfl, rfl⟩ | exact .inr rfl) rfl (by simp [go_sem]) (by simp [go_sem]) ?_; intro args ha; simp [go_sem] at ha; subst ha; refine ⟨_, (out_spec t (r + 1) told xn w e he hpe.1 hpe.2), ?_⟩; rintro _ rfl; simp [go_sem]; ((repeat' (first|(refine ag_x ?_;simp [go_sem])|intro _|refine And.intro ?_ ?_|(apply hKK;clear hKK KK)));all_goals first|refine Hold.mk ?_|omega|with_reducible assumption|(simp only [InR] at *;omega)|skip))
              (refine awp_ret ?_; simp [go_sem])
              simp [after, h11, leave, hxn, he] at hA
              rw [← hA]
              simp [hf]
            · refine awp_skip ?_
              refine hK8 _ ?_; clear hK8
              (refine awp_r fun KK hKK => ?_; simp [go_sem]; ((repeat' (first|(refine ag_x ?_;simp [go_sem])|intro _|refine And.intro ?_ ?_|(apply hKK;clear hKK KK)));all_goals first|refine Hold.mk ?_|omega|with_reducible assumption|(simp only [InR] at *;omega)|skip))
              refine ⟨(k + 1, w, told, gw, gt), ?_, ⟨h7, hwl', hww, htl, by simpa [h11] using hA⟩, by simp; omega⟩
              (refine cov_of ?_ ?_ <;> simp [go_sem])
          · (refine awp_sr fun KK hKK => ?_; simp [go_sem]; ((repeat' (first|(refine ag_x ?_;simp [go_sem])|intro _|refine And.intro ?_ ?_|(apply hKK;clear hKK KK)));all_goals first|refine Hold.mk ?_|omega|with_reducible assumption|(simp only [InR] at *;omega)|skip))
            (refine awp_if fun T F hT hF => ?_; simp [go_sem]; refine BR.intro (fun h12 => hT ?_) (fun h12 => hF ?_); all_goals clear hT hF T F; try simp at h12) 
            · have es : stepV x w = (va, true, false, w) := by simp [stepV, h12, ea]
              rw [es] at hA
              (refine awp_sr fun KK hKK => ?_; simp [go_sem]; ((repeat' (first|(refine ag_x ?_;simp [go_sem])|intro _|refine And.intro ?_ ?_|(apply hKK;clear hKK KK)));all_goals first|refine Hold.mk ?_|omega|with_reducible assumption|(simp only [InR] at *;omega)|skip))
              (refine awp_if fun T F hT hF => ?_; simp [go_sem]; refine BR.intro (fun h13 => hT ?_) (fun h13 => hF ?_); all_goals clear hT hF T F; try simp at h13) 
              · ((refine awp_d (.qs [0, 2, 3, 1, 4, 5, 6] (.kp 7 (.one 8 (.qs [9] (.one 10 (.nil)))))) (by kernel_rfl) ?_ ?_ ?_ ?_); (kernel_rfl); (exact (by decide +kernel)); (kernel_rfl); intro KK hKK; ((repeat' (first|(refine ag_x ?_;simp [go_sem, hva])|refine adr_nil ?_|refine adr_two ?_ ?_|refine adr_kp2 ?_ ?_|((first|refine adr_qs fun KK hKK=>?_|refine adr_y fun KK hKK=>?_);simp [go_sem, hva])|intro _|refine And.intro ?_ ?_|(apply hKK;clear hKK KK)));all_goals first|refine Hold.mk ?_|omega|with_reducible assumption|(simp only [InR] at *;omega)|skip))
                rename_i g7 g8
                refine hK8 _ ?_; clear hK8
                (refine awp_r fun KK hKK => ?_; simp [go_sem]; ((repeat' (first|(refine ag_x ?_;simp [go_sem])|intro _|refine And.intro ?_ ?_|(apply hKK;clear hKK KK)));all_goals first|refine Hold.mk ?_|omega|with_reducible assumption|(simp only [InR] at *;omega)|skip))
                refine ⟨(k + 1, w, told ++ [va], gw, g8), ?_, ⟨h7, hwl', hww, by simp; omega, by simpa [show told.length < 2000 by omega] using hA⟩, by simp; omega⟩
                (refine cov_of ?_ ?_ <;> simp [go_sem])
              · refine awp_skip ?_
                refine hK8 _ ?_; clear hK8
                (refine awp_r fun KK hKK => ?_; simp [go_sem]; ((repeat' (first|(refine ag_x ?_;simp [go_sem])|intro _|refine And.intro ?_ ?_|(apply hKK;clear hKK KK)));all_goals first|refine Hold.mk ?_|omega|with_reducible assumption|(simp only [InR] at *;omega)|skip))
                refine ⟨(k + 1, w, told, gw, gt), ?_, ⟨h7, hwl', hww, htl, by simpa [show ¬ told.length < 2000 by omega] using hA⟩, by simp; omega⟩
                (refine cov_of ?_ ?_ <;> simp [go_sem])
            · have es := stepV_val (i := x) (ws := w) ho1 ho2 h9 h10 h12
              rw [ea, eb] at es
              ((refine awp_dr (.qs [0, 2, 3, 7, 8, 1, 4, 5, 6, 9, 10, 11] (.one 12 (.qs [13, 14, 15, 16, 17] (.nil)))) (by kernel_rfl) ?_ ?_ ?_ ?_); (kernel_rfl); (exact (by decide +kernel)); (kernel_rfl); intro KK hKK; ((repeat' (first|(refine ag_x ?_;simp [go_sem, hva, hvb])|refine adr_nil ?_|refine adr_two ?_ ?_|refine adr_kp2 ?_ ?_|((first|refine adr_qs fun KK hKK=>?_|refine adr_y fun KK hKK=>?_);simp [go_sem, hva, hvb])|intro _|refine And.intro ?_ ?_|(apply hKK;clear hKK KK)));all_goals first|refine Hold.mk ?_|omega|with_reducible assumption|(simp only [InR] at *;omega)|skip))
              ((try refine CallT.toA ?_); refine callT_m (by first | exact .inl ⟨rfl, rfl⟩ | exact .inr rfl) (by simp [go_sem]) ?_; intro args ha; simp [go_sem] at ha; subst ha; refine ⟨_, (value_spec _ _ _ hwa hwb), ?_⟩; rintro _ rfl; simp [go_sem]; ((repeat' (first|(refine ag_x ?_;simp [go_sem])|refine adr_nil ?_|refine adr_two ?_ ?_|refine adr_kp2 ?_ ?_|((first|refine adr_qs fun KK hKK=>?_|refine adr_y fun KK hKK=>?_);simp [go_sem])|intro _|refine And.intro ?_ ?_|(apply hKK;clear hKK KK)));all_goals first|refine Hold.mk ?_|omega|with_reducible assumption|(simp only [InR] at *;omega)|skip))
              refine awp_seq_k fun K14 hK14 => ?_
              (refine awp_sr fun KK hKK => ?_; simp [go_sem]; ((repeat' (first|(refine ag_x ?_;simp [go_sem])|intro _|refine And.intro ?_ ?_|(apply hKK;clear hKK KK)));all_goals first|refine Hold.mk ?_|omega|with_reducible assumption|(simp only [InR] at *;omega)|skip))
              (refine awp_if fun T F hT hF => ?_; simp [go_sem]; refine BR.intro (fun h15 => hT ?_) (fun h15 => hF ?_); all_goals clear hT hF T F; try simp at h15) 
              · have hxx := insOk_exit hins (.inl (valP_exit ho1 ho2 h9 h10 h12 h15))
                obtain ⟨xn, hxn⟩ : ∃ n : Nat, x.x = n := ⟨x.x.toNat, by omega⟩
                obtain ⟨e, he⟩ : ∃ e, t.exits[xn]? = some e := ⟨_, List.getElem?_eq_getElem (by omega)⟩
                have hpe := hpw e (by omega) (by rw [hxn]; exact he)
                (refine awp_sr fun KK hKK => ?_; simp [go_sem, hxn]; ((repeat' (first|(refine ag_x ?_;simp [go_sem, hxn])|intro _|refine And.intro ?_ ?_|(apply hKK;clear hKK KK)));all_goals first|refine Hold.mk ?_|omega|with_reducible assumption|(simp only [InR] at *;omega)|skip))
                refine CallT.toA (CallT.tys [25, 3, 3, 26] ?_)
                ((try refine CallT.toA ?_); refine callT_z (by first | exact .inl ⟨rfl, rfl⟩ | exact .inr rfl) rfl (by simp [go_sem]) (by simp [go_sem]) ?_; intro args ha; simp [go_sem] at ha; subst ha; refine ⟨_, (out_spec t (r + 1) told xn w e he hpe.1 hpe.2), ?_⟩; rintro _ rfl; simp [go_sem]; ((repeat' (first|(refine ag_x ?_;simp [go_sem])|intro _|refine And.intro ?_ ?_|(apply hKK;clear hKK KK)));all_goals first|refine Hold.mk ?_|omega|with_reducible assumption|(simp only [InR] at *;omega)|skip))
                (refine awp_ret ?_; simp [go_sem])
                simp [after, es, h15, leave, hxn, he] at hA
                rw [← hA]
                simp [hf]
              · refine awp_skip ?_
                refine hK14 _ ?_; clear hK14
                (refine awp_r fun KK hKK => ?_; simp [go_sem, hvd]; ((repeat' (first|(refine ag_x ?_;simp [go_sem, hvd])|intro _|refine And.intro ?_ ?_|(apply hKK;clear hKK KK)));all_goals first|refine Hold.mk ?_|omega|with_reducible assumption|(simp only [InR] at *;omega)|skip))
                refine hK8 _ ?_; clear hK8
                rw [es] at hA hsl hsw
                simp only [h15, if_true] at hA hsl hsw
                (refine awp_r fun KK hKK => ?_; simp [go_sem]; ((repeat' (first|(refine ag_x ?_;simp [go_sem])|intro _|refine And.intro ?_ ?_|(apply hKK;clear hKK KK)));all_goals first|refine Hold.mk ?_|omega|with_reducible assumption|(simp only [InR] at *;omega)|skip))
                refine ⟨(k + 1, w.set x.d.toNat (valP x.op va vb).1, told, gw, gt), ?_, ⟨h7, by simpa using hsl.trans hwl', hsw, htl, by simpa using hA⟩, by simp; omega⟩
                (refine cov_of ?_ ?_ <;> simp [go_sem])
      · refine awp_exit ?_
        simp only [go_sem]
        have : k = t.code.length := by omega
        subst this
        simp [goCode, after] at hA
        refine ⟨(r + 1, w, told, gw, gt), ?_, ⟨by simp; omega, hwl', hww, htl, ?_⟩, by simp; omega⟩
        · (refine cov_of ?_ ?_ <;> simp [go_sem])
        · simp only; rw [show fuel.toNat - (r + 1) = m by omega]; exact hA
    · refine awp_exit ?_
      simp only [go_sem]
      refine hK3 _ ?_; clear hK3
      rw [show fuel.toNat - r = 0 by omega] at hA
      (refine awp_sr fun KK hKK => ?_; simp [go_sem]; ((repeat' (first|(refine ag_x ?_;simp [go_sem])|intro _|refine And.intro ?_ ?_|(apply hKK;clear hKK KK)));all_goals first|refine Hold.mk ?_|omega|with_reducible assumption|(simp only [InR] at *;omega)|skip))
      (refine awp_sr fun KK hKK => ?_; simp [go_sem]; ((repeat' (first|(refine ag_x ?_;simp [go_sem])|intro _|refine And.intro ?_ ?_|(apply hKK;clear hKK KK)));all_goals first|refine Hold.mk ?_|omega|with_reducible assumption|(simp only [InR] at *;omega)|skip))
      (refine awp_ret ?_; simp [go_sem])
      rw [← hA]
      simp [goRounds, hf]
end Go.Proofs.Ytmgbaegdkjcagaa

namespace Go.Proofs.Ytmgbaegdkjcagaa
open Go.Eng
set_option maxRecDepth 20000
attribute [local irreducible] AG CallA CallT AWp PCall ACall AgC

theorem step_exit {i : Ins} {ws : List Int} (h1 : 0 ≤ i.op) (h2 : i.op ≤ 10) (h : (stepV i ws).2.2.1 = true) : (2 ≤ i.op ∧ i.op ≤ 6) ∨ i.op = 9 := by
  by_cases h0 : i.op = 0
  · simp [stepV, h0] at h
  by_cases h9 : i.op = 9
  · exact .inr h9
  by_cases h10 : i.op = 10
  · simp [stepV, h10] at h
  rw [stepV_val h1 h2 h0 h9 h10] at h
  split at h
  · cases h
  · rename_i hv; exact .inl (valP_exit h1 h2 h0 h9 h10 (by simpa using hv))
theorem rrun_spec (t : Tr) (ws : List Int) (fuel : Int) (hws : ws.length ≤ 2 ^ 40) : PCall Try.prog 18 [dTr t, dIs ws, dI fuel] fun r => r = .tup [dRes (runV t ws fuel), dI (if fitOk t ws fuel then 0 else 1)] := by 
  refine pcall_of Try.func18 rfl rfl Try.ntmps18 (rs := [.cell 6 39, .tmp 7]) (tys := [39, 36]) rfl rfl (by simp) ?_
  (refine awp_sr fun KK hKK => ?_; simp [go_sem]; ((repeat' (first|(refine ag_x ?_;simp [go_sem])|intro _|refine And.intro ?_ ?_|(apply hKK;clear hKK KK)));all_goals first|refine Hold.mk ?_|omega|with_reducible assumption|(simp only [InR] at *;omega)|skip))
  rename_i g1 g2
  refine awp_frzbox 3 rfl rfl ?_
  simp only [go_sem]
  refine awp_seq_k fun K1 hK1 => ?_
  (refine awp_sr fun KK hKK => ?_; simp [go_sem]; ((repeat' (first|(refine ag_x ?_;simp [go_sem])|intro _|refine And.intro ?_ ?_|(apply hKK;clear hKK KK)));all_goals first|refine Hold.mk ?_|omega|with_reducible assumption|(simp only [InR] at *;omega)|skip))
  ((try refine CallT.toA ?_); refine callT_m (by first | exact .inl ⟨rfl, rfl⟩ | exact .inr rfl) (by simp [go_sem]) ?_; intro args ha; simp [go_sem] at ha; subst ha; refine ⟨_, (fits_spec _ _ _), ?_⟩; rintro _ rfl; simp [go_sem]; ((repeat' (first|(refine ag_x ?_;simp [go_sem])|intro _|refine And.intro ?_ ?_|(apply hKK;clear hKK KK)));all_goals first|refine Hold.mk ?_|omega|with_reducible assumption|(simp only [InR] at *;omega)|skip))
  (refine awp_if fun T F hT hF => ?_; simp [go_sem]; refine BR.intro (fun h2 => hT ?_) (fun h2 => hF ?_); all_goals clear hT hF T F; try simp at h2) 
  · (refine awp_sr fun KK hKK => ?_; simp [go_sem]; ((repeat' (first|(refine ag_x ?_;simp [go_sem])|intro _|refine And.intro ?_ ?_|(apply hKK;clear hKK KK)));all_goals first|refine Hold.mk ?_|omega|with_reducible assumption|(simp only [InR] at *;omega)|skip))
    (refine awp_ret ?_; simp [go_sem])
    simp [h2, runV]
  · have hf := h2
    simp only [fitOk, Bool.and_eq_true, decide_eq_true_eq] at h2
    refine awp_skip ?_
    refine hK1 _ ?_; clear hK1
    have hreg := trOk_regs h2.1.1.1
    have hwl : (ws.length : Int) = t.regs := h2.1.1.2
    (refine awp_sr fun KK hKK => ?_; simp [go_sem]; ((repeat' (first|(refine ag_x ?_;simp [go_sem])|intro _|refine And.intro ?_ ?_|(apply hKK;clear hKK KK)));all_goals first|refine Hold.mk ?_|omega|with_reducible assumption|(simp only [InR] at *;omega)|skip))
    rename_i ga gw
    refine awp_renrow 8 900000 rfl rfl (by decide) fun gw => ?_
    simp only [go_sem]
    (refine awp_sr fun KK hKK => ?_; simp [go_sem]; ((repeat' (first|(refine ag_x ?_;simp [go_sem])|intro _|refine And.intro ?_ ?_|(apply hKK;clear hKK KK)));all_goals first|refine Hold.mk ?_|omega|with_reducible assumption|(simp only [InR] at *;omega)|skip))
    rename_i gr
    refine awp_nilbox 63 3 1 4 (sb := 9) rfl rfl (by decide) fun gt => ?_
    refine awp_nilbox 104 3 1 3 (sb := 9) rfl rfl (by decide) fun gs => ?_
    simp only [go_sem, List.set]
    refine awp_seq_k fun K3 hK3 => ?_
    refine awp_block ?_
    refine awp_loop (σ := Nat × List Int × List Int × Nat × Nat) (fun x => ⟨[(2, dI fuel), (3, .rd [dI t.regs, .sl 6 (t.code.map cIns), .sl 2 (t.exits.map cExi)]), (6, .ptr 6 g2 0), (8, .own 900000 x.2.2.2.1), (9, .ptr 9 gr 0)],
      [(6, g2, .box [dI 0, dI 0, dI 0, .v (.slice none 0 0), .v (.slice none 0 0)]), (900000, x.2.2.2.1, .row 3 1 (x.2.1.map cI)), (9, gr, .box [dI 0, dI 0, dI x.1, .own 104 gs, .own 63 x.2.2.2.2]), (63, x.2.2.2.2, .row 3 1 (x.2.2.1.map cI)), (104, gs, .row 3 1 [])]⟩)
      (fun x => (x.1 : Int) ≤ fuel ∧ x.2.1.length = ws.length ∧ (∀ y ∈ x.2.1, isW y = true) ∧ x.2.2.1.length ≤ 2000 ∧ goRounds t (fuel.toNat - x.1) x.1 x.2.1 x.2.2.1 = runV t ws fuel) (fun x => fuel.toNat - x.1) (0, ws, [], gw, gt) ?_ ?_ ?_
    · (refine cov_of ?_ ?_ <;> simp [go_sem])
    · simp [runV, hf]; exact ⟨h2.1.2.1, by simpa using h2.2⟩
    rintro ⟨r, w, told, gw, gt⟩ ⟨hr, hwl', hww, htl, hA⟩
    simp only at hr hwl' hww htl hA
    refine awp_seq_k fun K4 hK4 => ?_
    (refine awp_sr fun KK hKK => ?_; simp [go_sem]; ((repeat' (first|(refine ag_x ?_;simp [go_sem])|intro _|refine And.intro ?_ ?_|(apply hKK;clear hKK KK)));all_goals first|refine Hold.mk ?_|omega|with_reducible assumption|(simp only [InR] at *;omega)|skip))
    (refine awp_if fun T F hT hF => ?_; simp [go_sem]; refine BR.intro (fun h5 => hT ?_) (fun h5 => hF ?_); all_goals clear hT hF T F; try simp at h5) 
    · refine awp_skip ?_
      refine hK4 _ ?_; clear hK4
      refine awp_block ?_
      (refine awp_sr fun KK hKK => ?_; simp [go_sem]; ((repeat' (first|(refine ag_x ?_;simp [go_sem])|intro _|refine And.intro ?_ ?_|(apply hKK;clear hKK KK)));all_goals first|refine Hold.mk ?_|omega|with_reducible assumption|(simp only [InR] at *;omega)|skip))
      (refine awp_sr fun KK hKK => ?_; simp [go_sem]; ((repeat' (first|(refine ag_x ?_;simp [go_sem])|intro _|refine And.intro ?_ ?_|(apply hKK;clear hKK KK)));all_goals first|refine Hold.mk ?_|omega|with_reducible assumption|(simp only [InR] at *;omega)|skip))
      refine awp_block ?_
      obtain ⟨m, hm⟩ : ∃ m, fuel.toNat - r = m + 1 := ⟨fuel.toNat - r - 1, by omega⟩
      rw [hm, rounds_succ] at hA
      refine awp_loop (σ := Nat × List Int × List Int × Nat × Nat) (fun x => ⟨[(2, dI fuel), (3, .rd [dI t.regs, .sl 6 (t.code.map cIns), .sl 2 (t.exits.map cExi)]), (6, .ptr 6 g2 0), (8, .own 900000 x.2.2.2.1), (9, .ptr 9 gr 0), (10, dI x.1)],
        [(6, g2, .box [dI 0, dI 0, dI 0, .v (.slice none 0 0), .v (.slice none 0 0)]), (900000, x.2.2.2.1, .row 3 1 (x.2.1.map cI)), (9, gr, .box [dI 0, dI 0, dI (r + 1 : Int), .own 104 gs, .own 63 x.2.2.2.2]), (63, x.2.2.2.2, .row 3 1 (x.2.2.1.map cI)), (104, gs, .row 3 1 [])]⟩)
        (fun x => x.1 ≤ t.code.length ∧ x.2.1.length = ws.length ∧ (∀ y ∈ x.2.1, isW y = true) ∧ x.2.2.1.length ≤ 2000 ∧ after t m (r + 1) (goCode (t.code.drop x.1) x.2.1 x.2.2.1) = runV t ws fuel) (fun x => t.code.length - x.1) (0, w, told, gw, gt) ?_ ?_ ?_
      · (refine cov_of ?_ ?_ <;> simp [go_sem])
      · simp; exact ⟨hwl', hww, htl, hA⟩
      clear hA hww htl hwl'
      rintro ⟨k, w, told, gw, gt⟩ ⟨hk, hwl', hww, htl, hA⟩
      simp only at hk hwl' hww htl hA
      refine awp_seq_k fun K6 hK6 => ?_
      (refine awp_sr fun KK hKK => ?_; simp [go_sem]; ((repeat' (first|(refine ag_x ?_;simp [go_sem])|intro _|refine And.intro ?_ ?_|(apply hKK;clear hKK KK)));all_goals first|refine Hold.mk ?_|omega|with_reducible assumption|(simp only [InR] at *;omega)|skip))
      (refine awp_if fun T F hT hF => ?_; simp [go_sem]; refine BR.intro (fun h7 => hT ?_) (fun h7 => hF ?_); all_goals clear hT hF T F; try simp at h7) 
      · refine awp_skip ?_
        refine hK6 _ ?_; clear hK6
        obtain ⟨x, hx⟩ : ∃ x, t.code[k]? = some x := ⟨_, List.getElem?_eq_getElem (by omega)⟩
        have hins := insOk_at h2.1.1.1 hx
        obtain ⟨ho1, ho2, ha, hb, hd, hn⟩ := insOk_regs hins hreg.1
        obtain ⟨hsl, hsw⟩ := step_words hins hreg.1 (ws := w) (by omega) hww
        rw [goCode_at hx] at hA
        obtain ⟨n, tl, out, w2, hs⟩ : ∃ n tl out w2, stepV x w = (n, tl, out, w2) := ⟨_, _, _, _, rfl⟩
        have hex := fun h => step_exit (ws := w) ho1 ho2 (h : (stepV x w).2.2.1 = true)
        refine awp_seq_k fun K8 hK8 => ?_
        refine awp_block ?_
        (refine awp_sr fun KK hKK => ?_; simp [go_sem, hx]; ((repeat' (first|(refine ag_x ?_;simp [go_sem, hx])|intro _|refine And.intro ?_ ?_|(apply hKK;clear hKK KK)));all_goals first|refine Hold.mk ?_|omega|with_reducible assumption|(simp only [InR] at *;omega)|skip))
        (refine callA_l [900000] (by first | exact .inl ⟨rfl, rfl⟩ | exact .inr rfl) (by simp [go_sem]) ?_; intro args ha; simp [go_sem] at ha; subst ha; refine ⟨_, _, (step_spec gw x w hww (by omega) (by omega) (by omega)), (by simp [go_sem]), ?_⟩; rintro ps r hps ⟨rfl, rfl⟩; simp [go_sem]; ((repeat' (first|(refine ag_x ?_;simp [go_sem])|intro _|refine And.intro ?_ ?_|(apply hKK;clear hKK KK)));all_goals first|refine Hold.mk ?_|omega|with_reducible assumption|(simp only [InR] at *;omega)|skip))
        simp only [hs] at hA hsl hsw hex ⊢
        obtain ⟨told2, ht2⟩ : ∃ l, (if tl && decide (told.length < 2000) then told ++ [n] else told) = l := ⟨_, rfl⟩
        rw [ht2] at hA
        have htl2 : told2.length ≤ 2000 := by
          rw [← ht2]
          split
          · rename_i hc; simp at hc; simp; omega
          · exact htl
        refine awp_seq_k fun K9 hK9 => ?_
        have tail : ∀ S' gt, Cov S' ⟨[(2, dI fuel), (3, .rd [dI t.regs, .sl 6 (t.code.map cIns), .sl 2 (t.exits.map cExi)]), (6, .ptr 6 g2 0), (8, .own 900000 gw), (9, .ptr 9 gr 0), (10, dI k), (11, dI n), (13, dB out)], [(6, g2, .box [dI 0, dI 0, dI 0, .v (.slice none 0 0), .v (.slice none 0 0)]), (900000, gw, .row 3 1 (w2.map cI)), (9, gr, .box [dI 0, dI 0, dI (r + 1 : Int), .own 104 gs, .own 63 gt]), (63, gt, .row 3 1 (told2.map cI)), (104, gs, .row 3 1 [])]⟩ → K9 S' := fun S' gt hS' => by
          refine hK9 _ ?_; clear hK9
          refine awp_cov hS' ?_
          (refine awp_sr fun KK hKK => ?_; simp [go_sem]; ((repeat' (first|(refine ag_x ?_;simp [go_sem])|intro _|refine And.intro ?_ ?_|(apply hKK;clear hKK KK)));all_goals first|refine Hold.mk ?_|omega|with_reducible assumption|(simp only [InR] at *;omega)|skip))
          (refine awp_if fun T F hT hF => ?_; simp [go_sem]; refine BR.intro (fun h11 => hT ?_) (fun h11 => hF ?_); all_goals clear hT hF T F; try simp at h11) 
          · subst h11
            simp only [if_true] at hA
            have hxx := insOk_exit hins (hex rfl)
            obtain ⟨xn, hxn⟩ : ∃ n : Nat, x.x = n := ⟨x.x.toNat, by omega⟩
            obtain ⟨e, he⟩ : ∃ e, t.exits[xn]? = some e := ⟨_, List.getElem?_eq_getElem (by omega)⟩
            have hpe := exOk_at h2.1.1.1 he
            ((refine awp_dr (.qs [0, 2, 4, 1, 3, 5, 6, 7, 8, 9] (.kp 10 (.one 11 (.nil)))) (by kernel_rfl) ?_ ?_ ?_ ?_); (kernel_rfl); (exact (by decide +kernel)); (kernel_rfl); intro KK hKK; ((repeat' (first|(refine ag_x ?_;simp [go_sem, hx, hxn, he])|refine adr_nil ?_|refine adr_two ?_ ?_|refine adr_kp2 ?_ ?_|((first|refine adr_qs fun KK hKK=>?_|refine adr_y fun KK hKK=>?_);simp [go_sem, hx, hxn, he])|intro _|refine And.intro ?_ ?_|(apply hKK;clear hKK KK)));all_goals first|refine Hold.mk ?_|omega|with_reducible assumption|(simp only [InR] at *;omega)|skip))
            rename_i gx
            (refine awp_sr fun KK hKK => ?_; simp [go_sem, hx, hxn]; ((repeat' (first|(refine ag_x ?_;simp [go_sem, hx, hxn])|intro _|refine And.intro ?_ ?_|(apply hKK;clear hKK KK)));all_goals first|refine Hold.mk ?_|omega|with_reducible assumption|(simp only [InR] at *;omega)|skip))
            (refine awp_sr fun KK hKK => ?_; simp [go_sem]; ((repeat' (first|(refine ag_x ?_;simp [go_sem])|intro _|refine And.intro ?_ ?_|(apply hKK;clear hKK KK)));all_goals first|refine Hold.mk ?_|omega|with_reducible assumption|(simp only [InR] at *;omega)|skip))
            refine awp_seq_k fun K12 hK12 => ?_
            (refine awp_sr fun KK hKK => ?_; simp [go_sem]; ((repeat' (first|(refine ag_x ?_;simp [go_sem])|intro _|refine And.intro ?_ ?_|(apply hKK;clear hKK KK)));all_goals first|refine Hold.mk ?_|omega|with_reducible assumption|(simp only [InR] at *;omega)|skip))
            refine awp_block ?_
            refine awp_loop (σ := Nat × Nat) (fun y => ⟨[(6, .ptr 6 g2 0), (8, .own 900000 gw), (9, .ptr 9 gr 0), (14, .ptr 14 gx 0), (15, dI y.1)],
              [(6, g2, .box [dI 0, dI 0, dI 0, .v (.slice none 0 0), .v (.slice none 0 0)]), (900000, gw, .row 3 1 (w2.map cI)), (9, gr, .box [dI xn, dI e.back, dI (r + 1 : Int), .own 104 y.2, .own 63 gt]), (63, gt, .row 3 1 (told2.map cI)), (104, y.2, .row 3 1 ((pickW w2 (e.slots.take y.1)).map cI)), (14, gx, .box (cExi e))]⟩)
              (fun y => y.1 ≤ e.slots.length) (fun y => e.slots.length - y.1) (0, gs) ?_ ?_ ?_
            · (refine cov_of ?_ ?_ <;> simp [go_sem, pickW])
            · simp
            rintro ⟨j, gs⟩ hj
            simp only at hj
            refine awp_seq_k fun K13 hK13 => ?_
            (refine awp_sr fun KK hKK => ?_; simp [go_sem]; ((repeat' (first|(refine ag_x ?_;simp [go_sem])|intro _|refine And.intro ?_ ?_|(apply hKK;clear hKK KK)));all_goals first|refine Hold.mk ?_|omega|with_reducible assumption|(simp only [InR] at *;omega)|skip))
            (refine awp_if fun T F hT hF => ?_; simp [go_sem]; refine BR.intro (fun h14 => hT ?_) (fun h14 => hF ?_); all_goals clear hT hF T F; try simp at h14) 
            · refine awp_skip ?_
              refine hK13 _ ?_; clear hK13
              obtain ⟨sl, hsx⟩ : ∃ s, e.slots[j]? = some s := ⟨_, List.getElem?_eq_getElem (by omega)⟩
              have hs2 := hpe.1 sl (List.mem_of_getElem? hsx)
              obtain ⟨v, hv⟩ : ∃ v, w2[sl.toNat]? = some v := ⟨_, List.getElem?_eq_getElem (by omega)⟩
              have hpl : (pickW w2 (e.slots.take j)).length ≤ 20 := by simp [pickW]; omega
              refine awp_seq_k fun K15 hK15 => ?_
              refine awp_block ?_
              ((refine awp_d (.qs [0, 2, 3, 5, 1, 4, 6, 7, 8, 9] (.kp 10 (.one 11 (.qs [12] (.one 13 (.nil)))))) (by kernel_rfl) ?_ ?_ ?_ ?_); (kernel_rfl); (exact (by decide +kernel)); (kernel_rfl); intro KK hKK; ((repeat' (first|(refine ag_x ?_;simp [go_sem, hsx, hv])|refine adr_nil ?_|refine adr_two ?_ ?_|refine adr_kp2 ?_ ?_|((first|refine adr_qs fun KK hKK=>?_|refine adr_y fun KK hKK=>?_);simp [go_sem, hsx, hv])|intro _|refine And.intro ?_ ?_|(apply hKK;clear hKK KK)));all_goals first|refine Hold.mk ?_|omega|with_reducible assumption|(simp only [InR] at *;omega)|skip))
              rename_i g7 g8
              refine hK15 _ ?_; clear hK15
              (refine awp_r fun KK hKK => ?_; simp [go_sem]; ((repeat' (first|(refine ag_x ?_;simp [go_sem])|intro _|refine And.intro ?_ ?_|(apply hKK;clear hKK KK)));all_goals first|refine Hold.mk ?_|omega|with_reducible assumption|(simp only [InR] at *;omega)|skip))
              have hpt : pickW w2 (e.slots.take (j + 1)) = pickW w2 (e.slots.take j) ++ [v] := by
                rw [List.take_add_one, hsx]
                simp [pickW, List.getD, hv]
              refine ⟨(j + 1, g8), ?_, by simp; omega, by simp; omega⟩
              (refine cov_of ?_ ?_ <;> simp [go_sem, hpt])
            · refine awp_exit ?_
              simp only [go_sem]
              refine hK12 _ ?_; clear hK12
              have : j = e.slots.length := by omega
              subst this
              simp only [List.take_length]
              (refine awp_sr fun KK hKK => ?_; simp [go_sem]; ((repeat' (first|(refine ag_x ?_;simp [go_sem])|intro _|refine And.intro ?_ ?_|(apply hKK;clear hKK KK)));all_goals first|refine Hold.mk ?_|omega|with_reducible assumption|(simp only [InR] at *;omega)|skip))
              (refine awp_ret ?_; simp [go_sem])
              simp [after, leave, hxn, he] at hA
              rw [← hA]
              simp [hf]
          · subst h11
            simp only [Bool.false_eq_true, if_false] at hA
            refine awp_skip ?_
            refine hK8 _ ?_
            (refine awp_r fun KK hKK => ?_; simp [go_sem]; ((repeat' (first|(refine ag_x ?_;simp [go_sem])|intro _|refine And.intro ?_ ?_|(apply hKK;clear hKK KK)));all_goals first|refine Hold.mk ?_|omega|with_reducible assumption|(simp only [InR] at *;omega)|skip))
            refine ⟨(k + 1, w2, told2, gw, gt), ?_, ⟨by simp; omega, by simpa using hsl.trans hwl', hsw, htl2, by simpa using hA⟩, by simp; omega⟩
            (refine cov_of ?_ ?_ <;> simp [go_sem])
        (refine awp_sr fun KK hKK => ?_; simp [go_sem]; ((repeat' (first|(refine ag_x ?_;simp [go_sem])|intro _|refine And.intro ?_ ?_|(apply hKK;clear hKK KK)));all_goals first|refine Hold.mk ?_|omega|with_reducible assumption|(simp only [InR] at *;omega)|skip))
        (refine awp_if fun T F hT hF => ?_; simp [go_sem]; refine BR.intro (fun h10 => hT ?_) (fun h10 => hF ?_); all_goals clear hT hF T F; try simp at h10) 
        · have : told2 = told ++ [n] := by rw [← ht2]; simp [h10]; omega
          subst this
          (refine awp_r fun KK hKK => ?_; simp [go_sem]; ((repeat' (first|(refine ag_x ?_;simp [go_sem])|intro _|refine And.intro ?_ ?_|(apply hKK;clear hKK KK)));all_goals first|refine Hold.mk ?_|omega|with_reducible assumption|(simp only [InR] at *;omega)|skip))
          rename_i g7 g8
          refine tail _ g8 ?_
          (refine cov_of ?_ ?_ <;> simp [go_sem])
        · have : told2 = told := by rw [← ht2]; rw [if_neg]; simp; intro h; have := h10 h; omega
          subst this
          refine awp_skip ?_
          refine tail _ gt ?_
          (refine cov_of ?_ ?_ <;> simp [go_sem])
      · refine awp_exit ?_
        simp only [go_sem]
        have : k = t.code.length := by omega
        subst this
        simp [goCode, after] at hA
        refine ⟨(r + 1, w, told, gw, gt), ?_, ⟨by simp; omega, hwl', hww, htl, ?_⟩, by simp; omega⟩
        · (refine cov_of ?_ ?_ <;> simp [go_sem])
        · simp only; rw [show fuel.toNat - (r + 1) = m by omega]; exact hA
    · refine awp_exit ?_
      simp only [go_sem]
      refine hK3 _ ?_; clear hK3
      rw [show fuel.toNat - r = 0 by omega] at hA
      (refine awp_sr fun KK hKK => ?_; simp [go_sem]; ((repeat' (first|(refine ag_x ?_;simp [go_sem])|intro _|refine And.intro ?_ ?_|(apply hKK;clear hKK KK)));all_goals first|refine Hold.mk ?_|omega|with_reducible assumption|(simp only [InR] at *;omega)|skip))
      (refine awp_sr fun KK hKK => ?_; simp [go_sem]; ((repeat' (first|(refine ag_x ?_;simp [go_sem])|intro _|refine And.intro ?_ ?_|(apply hKK;clear hKK KK)));all_goals first|refine Hold.mk ?_|omega|with_reducible assumption|(simp only [InR] at *;omega)|skip))
      (refine awp_sr fun KK hKK => ?_; simp [go_sem]; ((repeat' (first|(refine ag_x ?_;simp [go_sem])|intro _|refine And.intro ?_ ?_|(apply hKK;clear hKK KK)));all_goals first|refine Hold.mk ?_|omega|with_reducible assumption|(simp only [InR] at *;omega)|skip))
      (refine awp_sr fun KK hKK => ?_; simp [go_sem]; ((repeat' (first|(refine ag_x ?_;simp [go_sem])|intro _|refine And.intro ?_ ?_|(apply hKK;clear hKK KK)));all_goals first|refine Hold.mk ?_|omega|with_reducible assumption|(simp only [InR] at *;omega)|skip))
      (refine awp_ret ?_; simp [go_sem])
      rw [← hA]
      simp [goRounds, hf]
end Go.Proofs.Ytmgbaegdkjcagaa

namespace Go.Proofs.Ytmgbaegdkjcagaa
open Go.Eng
set_option maxRecDepth 20000
attribute [local irreducible] AG CallA CallT AWp PCall ACall AgC

theorem take_step {α : Type} {l m : List α} {i : Nat} {x : α} (h : l.take i = m.take i) (hx : l[i]? = some x) (hy : m[i]? = some x) : l.take (i + 1) = m.take (i + 1) := by
  rw [List.take_add_one, List.take_add_one, h, hx, hy]
theorem take_full {α : Type} {l m : List α} (hl : l.length = m.length) (h : l.take l.length = m.take l.length) : l = m := by
  rwa [List.take_length, hl, List.take_length] at h

theorem ints_spec (l m : List Int) : PCall Try.prog 25 [dIs l, dIs m] fun r => r = dB (decide (l = m)) := by
  refine pcall_of Try.func25 rfl rfl Try.ntmps25 (rs := [.tmp 4]) (tys := [4]) rfl rfl (by simp) ?_
  refine awp_len 0 rfl fun hlen => ?_
  simp [lensD] at hlen
  (refine awp_sr fun KK hKK => ?_; simp [go_sem]; ((repeat' (first|(refine ag_x ?_;simp [go_sem])|intro _|refine And.intro ?_ ?_|(apply hKK;clear hKK KK)));all_goals first|refine Hold.mk ?_|omega|with_reducible assumption|(simp only [InR] at *;omega)|skip))
  refine awp_seq_k fun K hK => ?_
  (refine awp_sr fun KK hKK => ?_; simp [go_sem]; ((repeat' (first|(refine ag_x ?_;simp [go_sem])|intro _|refine And.intro ?_ ?_|(apply hKK;clear hKK KK)));all_goals first|refine Hold.mk ?_|omega|with_reducible assumption|(simp only [InR] at *;omega)|skip))
  (refine awp_if fun T F hT hF => ?_; simp [go_sem]; refine BR.intro (fun h => hT ?_) (fun h => hF ?_); all_goals clear hT hF T F; try simp at h)
  · (refine awp_sr fun KK hKK => ?_; simp [go_sem]; ((repeat' (first|(refine ag_x ?_;simp [go_sem])|intro _|refine And.intro ?_ ?_|(apply hKK;clear hKK KK)));all_goals first|refine Hold.mk ?_|omega|with_reducible assumption|(simp only [InR] at *;omega)|skip))
    (refine awp_ret ?_; simp [go_sem])
    intro e; subst e; simp at h
  refine awp_skip ?_
  refine hK _ ?_
  clear hK K
  have hlm : l.length = m.length := by omega
  refine awp_seq_k fun K hK => ?_
  (refine awp_sr fun KK hKK => ?_; simp [go_sem]; ((repeat' (first|(refine ag_x ?_;simp [go_sem])|intro _|refine And.intro ?_ ?_|(apply hKK;clear hKK KK)));all_goals first|refine Hold.mk ?_|omega|with_reducible assumption|(simp only [InR] at *;omega)|skip))
  refine awp_block ?_
  refine awp_loop (σ := Nat) (fun i => ⟨[(5, dI i), (0, dIs l), (1, dIs m)], []⟩) (fun i => i ≤ l.length ∧ l.take i = m.take i) (fun i => l.length - i) 0 ?_ ?_ ?_
  · (refine cov_of ?_ ?_ <;> simp [go_sem])
  · simp
  intro i ⟨hi, hlt⟩
  refine awp_seq_k fun K2 hK2 => ?_
  (refine awp_sr fun KK hKK => ?_; simp [go_sem]; ((repeat' (first|(refine ag_x ?_;simp [go_sem])|intro _|refine And.intro ?_ ?_|(apply hKK;clear hKK KK)));all_goals first|refine Hold.mk ?_|omega|with_reducible assumption|(simp only [InR] at *;omega)|skip))
  (refine awp_if fun T F hT hF => ?_; simp [go_sem]; refine BR.intro (fun h => hT ?_) (fun h => hF ?_); all_goals clear hT hF T F; try simp at h)
  · refine awp_skip ?_
    refine hK2 _ ?_
    have hi' : i < l.length := by simpa using h
    refine awp_seq_k fun K4 hK4 => ?_
    refine awp_block ?_
    obtain ⟨x, hx⟩ : ∃ x, l[i]? = some x := ⟨_, List.getElem?_eq_getElem hi'⟩
    obtain ⟨y, hy⟩ : ∃ x, m[i]? = some x := ⟨_, List.getElem?_eq_getElem (hlm ▸ hi')⟩
    ((refine awp_dr (.qs [0, 1, 2, 4, 5, 6, 3, 7, 8] (.nil)) (by kernel_rfl) ?_ ?_ ?_ ?_); (kernel_rfl); (exact (by decide +kernel)); (kernel_rfl); intro KK hKK; ((repeat' (first|(refine ag_x ?_;simp [go_sem, hx, hy])|refine adr_nil ?_|refine adr_two ?_ ?_|refine adr_kp2 ?_ ?_|((first|refine adr_qs fun KK hKK=>?_|refine adr_y fun KK hKK=>?_);simp [go_sem, hx, hy])|intro _|refine And.intro ?_ ?_|(apply hKK;clear hKK KK)));all_goals first|refine Hold.mk ?_|omega|with_reducible assumption|(simp only [InR] at *;omega)|skip))
    (refine awp_if fun T F hT hF => ?_; simp [go_sem]; refine BR.intro (fun h => hT ?_) (fun h => hF ?_); all_goals clear hT hF T F; try simp at h)
    · (refine awp_sr fun KK hKK => ?_; simp [go_sem]; ((repeat' (first|(refine ag_x ?_;simp [go_sem])|intro _|refine And.intro ?_ ?_|(apply hKK;clear hKK KK)));all_goals first|refine Hold.mk ?_|omega|with_reducible assumption|(simp only [InR] at *;omega)|skip))
      (refine awp_ret ?_; simp [go_sem])
      intro e; subst e
      rw [hx] at hy; simp at hy; subst hy; simp at h
    refine awp_skip ?_
    simp only [go_sem]
    refine hK4 _ ?_
    clear hK4 K4 hK2 K2
    subst h
    (refine awp_r fun KK hKK => ?_; simp [go_sem]; ((repeat' (first|(refine ag_x ?_;simp [go_sem])|intro _|refine And.intro ?_ ?_|(apply hKK;clear hKK KK)));all_goals first|refine Hold.mk ?_|omega|with_reducible assumption|(simp only [InR] at *;omega)|skip))
    refine ⟨i + 1, ?_, ⟨by omega, take_step hlt hx hy⟩, by omega⟩
    (refine cov_of ?_ ?_ <;> simp [go_sem])
  refine awp_exit ?_
  simp only [go_sem]
  refine hK _ ?_
  (refine awp_sr fun KK hKK => ?_; simp [go_sem]; ((repeat' (first|(refine ag_x ?_;simp [go_sem])|intro _|refine And.intro ?_ ?_|(apply hKK;clear hKK KK)));all_goals first|refine Hold.mk ?_|omega|with_reducible assumption|(simp only [InR] at *;omega)|skip))
  (refine awp_ret ?_; simp [go_sem])
  have : i = l.length := by omega
  subst this
  exact take_full hlm hlt

theorem as_spec (t : Tr) (hc : t.code.length ≤ 500) (he : t.exits.length ≤ 100) (hs : ∀ x ∈ t.exits, x.slots.length ≤ 2000) : PCall Try.prog 16 [dTr t] fun r => r = dTr t := by 
  refine pcall_of Try.func16 rfl rfl Try.ntmps16 (rs := [.cell 2 32]) (tys := [32]) rfl rfl (by simp) ?_
  (refine awp_sr fun KK hKK => ?_; simp [go_sem]; ((repeat' (first|(refine ag_x ?_;simp [go_sem])|intro _|refine And.intro ?_ ?_|(apply hKK;clear hKK KK)));all_goals first|refine Hold.mk ?_|omega|with_reducible assumption|(simp only [InR] at *;omega)|skip))
  rename_i g1 g2
  refine awp_frzbox 1 rfl rfl ?_
  simp only [go_sem]
  (refine awp_sr fun KK hKK => ?_; simp [go_sem]; ((repeat' (first|(refine ag_x ?_;simp [go_sem])|intro _|refine And.intro ?_ ?_|(apply hKK;clear hKK KK)));all_goals first|refine Hold.mk ?_|omega|with_reducible assumption|(simp only [InR] at *;omega)|skip))
  rename_i g3
  refine awp_nilbox 38 57 6 1 (sb := 3) rfl rfl (by decide) fun g4 => ?_
  refine awp_nilbox 65 72 2 2 (sb := 3) rfl rfl (by decide) fun g5 => ?_
  simp only [List.set, go_sem]
  refine awp_seq_k fun K1 hK1 => ?_
  (refine awp_sr fun KK hKK => ?_; simp [go_sem]; ((repeat' (first|(refine ag_x ?_;simp [go_sem])|intro _|refine And.intro ?_ ?_|(apply hKK;clear hKK KK)));all_goals first|refine Hold.mk ?_|omega|with_reducible assumption|(simp only [InR] at *;omega)|skip))
  refine awp_block ?_
  refine awp_loop (σ := Nat × Nat) (fun x => ⟨[(1, .rd [dI t.regs, .sl 6 (t.code.map cIns), .sl 2 (t.exits.map cExi)]), (2, .ptr 2 g2 0), (3, .ptr 3 g3 0), (4, dI x.1)], [(2, g2, .box [dI 0, .v (.slice none 0 0), .v (.slice none 0 0)]),
    (3, g3, .box [dI t.regs, .own 38 x.2, .own 65 g5]), (38, x.2, .row 57 6 ((t.code.take x.1).map cIns)), (65, g5, .row 72 2 [])]⟩) (fun x => x.1 ≤ t.code.length) (fun x => t.code.length - x.1) (0, g4) ?_ ?_ ?_
  · (refine cov_of ?_ ?_ <;> simp [go_sem])
  · simp
  rintro ⟨i, g⟩ hx
  simp at hx
  refine awp_seq_k fun K2 hK2 => ?_
  (refine awp_sr fun KK hKK => ?_; simp [go_sem]; ((repeat' (first|(refine ag_x ?_;simp [go_sem])|intro _|refine And.intro ?_ ?_|(apply hKK;clear hKK KK)));all_goals first|refine Hold.mk ?_|omega|with_reducible assumption|(simp only [InR] at *;omega)|skip))
  (refine awp_if fun T F hT hF => ?_; simp [go_sem]; refine BR.intro (fun h3 => hT ?_) (fun h3 => hF ?_); all_goals clear hT hF T F; try simp at h3) 
  · refine awp_skip ?_
    refine hK2 _ ?_; clear hK2
    have hi : i < t.code.length := by simpa using h3
    obtain ⟨x, hx⟩ : ∃ x, t.code[i]? = some x := ⟨_, List.getElem?_eq_getElem hi⟩
    refine awp_seq_k fun K4 hK4 => ?_
    refine awp_block ?_
    (refine awp_sr fun KK hKK => ?_; simp [go_sem, hx]; ((repeat' (first|(refine ag_x ?_;simp [go_sem, hx])|intro _|refine And.intro ?_ ?_|(apply hKK;clear hKK KK)));all_goals first|refine Hold.mk ?_|omega|with_reducible assumption|(simp only [InR] at *;omega)|skip))
    (refine awp_r fun KK hKK => ?_; simp [go_sem]; ((repeat' (first|(refine ag_x ?_;simp [go_sem])|intro _|refine And.intro ?_ ?_|(apply hKK;clear hKK KK)));all_goals first|refine Hold.mk ?_|omega|with_reducible assumption|(simp only [InR] at *;omega)|skip))
    refine hK4 _ ?_; clear hK4
    (refine awp_r fun KK hKK => ?_; simp [go_sem]; ((repeat' (first|(refine ag_x ?_;simp [go_sem])|intro _|refine And.intro ?_ ?_|(apply hKK;clear hKK KK)));all_goals first|refine Hold.mk ?_|omega|with_reducible assumption|(simp only [InR] at *;omega)|skip))
    have ht : t.code.take (i + 1) = t.code.take i ++ [x] := by rw [List.take_add_one, hx]; rfl
    refine ⟨(i + 1, ‹_›), ?_, ?_, ?_⟩
    · (refine cov_of ?_ ?_ <;> simp [go_sem, ht, hx])
    · exact hi
    · simp; omega
  · refine awp_exit ?_
    simp only [go_sem]
    refine hK1 _ ?_; clear hK1
    have hil : i = t.code.length := by omega
    subst hil
    simp only [← List.map_take, List.take_length]
    refine awp_seq_k fun K5 hK5 => ?_
    (refine awp_sr fun KK hKK => ?_; simp [go_sem]; ((repeat' (first|(refine ag_x ?_;simp [go_sem])|intro _|refine And.intro ?_ ?_|(apply hKK;clear hKK KK)));all_goals first|refine Hold.mk ?_|omega|with_reducible assumption|(simp only [InR] at *;omega)|skip))
    refine awp_block ?_
    refine awp_loop (σ := Nat × Nat) (fun x => ⟨[(1, .rd [dI t.regs, .sl 6 (t.code.map cIns), .sl 2 (t.exits.map cExi)]), (2, .ptr 2 g2 0), (3, .ptr 3 g3 0), (6, dI x.1)], [(2, g2, .box [dI 0, .v (.slice none 0 0), .v (.slice none 0 0)]),
      (3, g3, .box [dI t.regs, .own 38 g, .own 65 x.2]), (38, g, .row 57 6 (t.code.map cIns)), (65, x.2, .row 72 2 ((t.exits.take x.1).map cExi))]⟩) (fun x => x.1 ≤ t.exits.length) (fun x => t.exits.length - x.1) (0, g5) ?_ ?_ ?_
    · (refine cov_of ?_ ?_ <;> simp [go_sem])
    · simp
    rintro ⟨i, gg⟩ hx'
    simp at hx'
    refine awp_seq_k fun K6 hK6 => ?_
    (refine awp_sr fun KK hKK => ?_; simp [go_sem]; ((repeat' (first|(refine ag_x ?_;simp [go_sem])|intro _|refine And.intro ?_ ?_|(apply hKK;clear hKK KK)));all_goals first|refine Hold.mk ?_|omega|with_reducible assumption|(simp only [InR] at *;omega)|skip))
    (refine awp_if fun T F hT hF => ?_; simp [go_sem]; refine BR.intro (fun h7 => hT ?_) (fun h7 => hF ?_); all_goals clear hT hF T F; try simp at h7) 
    · refine awp_skip ?_
      refine hK6 _ ?_; clear hK6
      have hi : i < t.exits.length := by simpa using h7
      obtain ⟨x, hx⟩ : ∃ x, t.exits[i]? = some x := ⟨_, List.getElem?_eq_getElem hi⟩
      have hxs := hs x (List.mem_of_getElem? hx)
      refine awp_seq_k fun K8 hK8 => ?_
      refine awp_block ?_
      ((refine awp_d (.qs [0, 2, 4, 9, 11, 1, 3, 5, 6, 7, 10, 12, 13, 14] (.kp 8 (.kp 15 (.qs [16] (.kp 17 (.one 18 (.qs [19] (.one 20 (.nil)))))))) ) (by kernel_rfl) ?_ ?_ ?_ ?_); (kernel_rfl); (exact (by decide +kernel)); (kernel_rfl); intro KK hKK; ((repeat' (first|(refine ag_x ?_;simp [go_sem, hx])|refine adr_nil ?_|refine adr_two ?_ ?_|refine adr_kp2 ?_ ?_|((first|refine adr_qs fun KK hKK=>?_|refine adr_y fun KK hKK=>?_);simp [go_sem, hx])|intro _|refine And.intro ?_ ?_|(apply hKK;clear hKK KK)));all_goals first|refine Hold.mk ?_|omega|with_reducible assumption|(simp only [InR] at *;omega)|skip))
      refine hK8 _ ?_; clear hK8
      (refine awp_r fun KK hKK => ?_; simp [go_sem]; ((repeat' (first|(refine ag_x ?_;simp [go_sem])|intro _|refine And.intro ?_ ?_|(apply hKK;clear hKK KK)));all_goals first|refine Hold.mk ?_|omega|with_reducible assumption|(simp only [InR] at *;omega)|skip))
      have ht : t.exits.take (i + 1) = t.exits.take i ++ [x] := by rw [List.take_add_one, hx]; rfl
      refine ⟨(i + 1, ‹_›), ?_, ?_, ?_⟩
      · (refine cov_of ?_ ?_ <;> simp [go_sem, ht, hx])
      · exact hi
      · simp; omega
    · refine awp_exit ?_
      simp only [go_sem]
      refine hK5 _ ?_; clear hK5
      have hil : i = t.exits.length := by omega
      subst hil
      simp only [← List.map_take, List.take_length]
      (refine awp_sr fun KK hKK => ?_; simp [go_sem]; ((repeat' (first|(refine ag_x ?_;simp [go_sem])|intro _|refine And.intro ?_ ?_|(apply hKK;clear hKK KK)));all_goals first|refine Hold.mk ?_|omega|with_reducible assumption|(simp only [InR] at *;omega)|skip))
      (refine awp_ret ?_; simp [go_sem])

def exSum (l : List Exi) : Nat := (l.map fun x => min x.slots.length 2000).sum
theorem sum_le (l : List Exi) : exSum l ≤ 2000 * l.length := by
  unfold exSum
  induction l with
  | nil => simp
  | cons x l ih => simp only [List.map_cons, List.sum_cons, List.length_cons]; omega
theorem exSum_at {l : List Exi} {k : Nat} {x : Exi} (h : l[k]? = some x) : (exSum (l.take (k + 1)) : Int) = exSum (l.take k) + if 2000 < (x.slots.length : Int) then 2000 else (x.slots.length : Int) := by
  unfold exSum
  rw [List.take_add_one, h, List.map_append, List.sum_append]
  simp only [Option.toList, List.map_cons, List.map_nil, List.sum_cons, List.sum_nil]
  split <;> omega
/-- is a trace larger than is looked at -/
def largeV (t : Tr) : Bool := decide (500 < t.code.length) || decide (100 < t.exits.length) || decide (2000 ≤ exSum t.exits)
theorem large_spec (t : Tr) : PCall Try.prog 14 [dTr t] fun r => r = dB (largeV t) := by 
  refine pcall_of Try.func14 rfl rfl Try.ntmps14 (rs := [.tmp 2]) (tys := [4]) rfl rfl (by simp) ?_
  (refine awp_sr fun KK hKK => ?_; simp [go_sem]; ((repeat' (first|(refine ag_x ?_;simp [go_sem])|intro _|refine And.intro ?_ ?_|(apply hKK;clear hKK KK)));all_goals first|refine Hold.mk ?_|omega|with_reducible assumption|(simp only [InR] at *;omega)|skip))
  refine awp_frzbox 1 rfl rfl ?_
  simp only [go_sem]
  refine awp_seq_k fun K1 hK1 => ?_
  (refine awp_sr fun KK hKK => ?_; simp [go_sem]; ((repeat' (first|(refine ag_x ?_;simp [go_sem])|intro _|refine And.intro ?_ ?_|(apply hKK;clear hKK KK)));all_goals first|refine Hold.mk ?_|omega|with_reducible assumption|(simp only [InR] at *;omega)|skip))
  (refine awp_if fun T F hT hF => ?_; simp [go_sem]; refine BR.intro (fun h2 => hT ?_) (fun h2 => hF ?_); all_goals clear hT hF T F; try simp at h2) 
  · (refine awp_sr fun KK hKK => ?_; simp [go_sem]; ((repeat' (first|(refine ag_x ?_;simp [go_sem])|intro _|refine And.intro ?_ ?_|(apply hKK;clear hKK KK)));all_goals first|refine Hold.mk ?_|omega|with_reducible assumption|(simp only [InR] at *;omega)|skip))
    (refine awp_ret ?_; simp [go_sem])
    simp [largeV]
    omega
  · refine awp_skip ?_
    refine hK1 _ ?_; clear hK1
    have hb : t.code.length ≤ 500 ∧ t.exits.length ≤ 100 := by omega
    (refine awp_sr fun KK hKK => ?_; simp [go_sem]; ((repeat' (first|(refine ag_x ?_;simp [go_sem])|intro _|refine And.intro ?_ ?_|(apply hKK;clear hKK KK)));all_goals first|refine Hold.mk ?_|omega|with_reducible assumption|(simp only [InR] at *;omega)|skip))
    refine awp_seq_k fun K3 hK3 => ?_
    (refine awp_sr fun KK hKK => ?_; simp [go_sem]; ((repeat' (first|(refine ag_x ?_;simp [go_sem])|intro _|refine And.intro ?_ ?_|(apply hKK;clear hKK KK)));all_goals first|refine Hold.mk ?_|omega|with_reducible assumption|(simp only [InR] at *;omega)|skip))
    refine awp_block ?_
    refine awp_loop (σ := Nat) (fun k => ⟨[(1, .rd [dI t.regs, .sl 6 (t.code.map cIns), .sl 2 (t.exits.map cExi)]), (3, dI (exSum (t.exits.take k))), (4, dI k)], []⟩) (fun k => k ≤ t.exits.length) (fun k => t.exits.length - k) 0 ?_ ?_ ?_
    · (refine cov_of ?_ ?_ <;> simp [go_sem, exSum])
    · simp
    rintro k hk
    refine awp_seq_k fun K4 hK4 => ?_
    (refine awp_sr fun KK hKK => ?_; simp [go_sem]; ((repeat' (first|(refine ag_x ?_;simp [go_sem])|intro _|refine And.intro ?_ ?_|(apply hKK;clear hKK KK)));all_goals first|refine Hold.mk ?_|omega|with_reducible assumption|(simp only [InR] at *;omega)|skip))
    (refine awp_if fun T F hT hF => ?_; simp [go_sem]; refine BR.intro (fun h5 => hT ?_) (fun h5 => hF ?_); all_goals clear hT hF T F; try simp at h5) 
    · refine awp_skip ?_
      refine hK4 _ ?_; clear hK4
      obtain ⟨x, hx⟩ : ∃ x, t.exits[k]? = some x := ⟨_, List.getElem?_eq_getElem (by omega)⟩
      have hsum := sum_le (t.exits.take k)
      have hk2 : (t.exits.take k).length ≤ 100 := by simp; omega
      have ht := exSum_at hx
      refine awp_seq_k fun K6 hK6 => ?_
      refine awp_block ?_
      have q1 : -9223372036854775808 ≤ (exSum (t.exits.take k) : Int) + if 2000 < (x.slots.length : Int) then 2000 else (x.slots.length : Int) := by split <;> omega
      have q2 : (exSum (t.exits.take k) : Int) + (if 2000 < (x.slots.length : Int) then 2000 else (x.slots.length : Int)) ≤ 9223372036854775807 := by split <;> omega
      (refine awp_r fun KK hKK => ?_; simp [go_sem, hx]; ((repeat' (first|(refine ag_x ?_;simp [go_sem, hx])|intro _|refine And.intro ?_ ?_|(apply hKK;clear hKK KK)));all_goals first|refine Hold.mk ?_|omega|with_reducible assumption|(simp only [InR] at *;omega)|skip))
      refine hK6 _ ?_; clear hK6
      (refine awp_r fun KK hKK => ?_; simp [go_sem]; ((repeat' (first|(refine ag_x ?_;simp [go_sem])|intro _|refine And.intro ?_ ?_|(apply hKK;clear hKK KK)));all_goals first|refine Hold.mk ?_|omega|with_reducible assumption|(simp only [InR] at *;omega)|skip))
      refine ⟨k + 1, ?_, by omega, by omega⟩
      (refine cov_of ?_ ?_ <;> simp [go_sem, ht])
    · refine awp_exit ?_
      simp only [go_sem]
      refine hK3 _ ?_; clear hK3
      have : k = t.exits.length := by omega
      subst this
      (refine awp_sr fun KK hKK => ?_; simp [go_sem]; ((repeat' (first|(refine ag_x ?_;simp [go_sem])|intro _|refine And.intro ?_ ?_|(apply hKK;clear hKK KK)));all_goals first|refine Hold.mk ?_|omega|with_reducible assumption|(simp only [InR] at *;omega)|skip))
      (refine awp_ret ?_; simp [go_sem, List.take_length])
      have e1 : decide (500 < t.code.length) = false := by simp; omega
      have e2 : decide (100 < t.exits.length) = false := by simp; omega
      simp [largeV, e1, e2]
      omega
end Go.Proofs.Ytmgbaegdkjcagaa

namespace Go.Proofs.Ytmgbaegdkjcagaa
open Go.Eng
set_option maxRecDepth 20000
attribute [local irreducible] AG CallA CallT AWp PCall ACall AgC

theorem same_spec (r s : Res) : PCall Try.prog 19 [dRes r, dRes s] fun d => d = dB (decide (r = s)) := by 
  refine pcall_of Try.func19 rfl rfl Try.ntmps19 (rs := [.tmp 4]) (tys := [4]) rfl rfl (by simp) ?_
  (refine awp_sr fun KK hKK => ?_; simp [go_sem]; ((repeat' (first|(refine ag_x ?_;simp [go_sem])|intro _|refine And.intro ?_ ?_|(apply hKK;clear hKK KK)));all_goals first|refine Hold.mk ?_|omega|with_reducible assumption|(simp only [InR] at *;omega)|skip))
  refine awp_frzbox 2 rfl rfl ?_
  refine awp_frzbox 3 rfl rfl ?_
  simp only [go_sem]
  (refine awp_sr fun KK hKK => ?_; simp [go_sem]; ((repeat' (first|(refine ag_x ?_;simp [go_sem])|intro _|refine And.intro ?_ ?_|(apply hKK;clear hKK KK)));all_goals first|refine Hold.mk ?_|omega|with_reducible assumption|(simp only [InR] at *;omega)|skip))
  (refine agc_f (dB (decide (r.slots = s.slots))) (by first | exact .inl ⟨rfl, rfl⟩ | exact .inr rfl) ?_ rfl ?_; (intro hc args ha; simp [go_sem] at ha; subst ha; exact (ints_spec _ _)); simp [go_sem]; ((repeat' (first|(refine ag_x ?_;simp [go_sem])|intro _|refine And.intro ?_ ?_|(apply hKK;clear hKK KK)));all_goals first|refine Hold.mk ?_|omega|with_reducible assumption|(simp only [InR] at *;omega)|skip))
  (refine agc_f (dB (decide (r.told = s.told))) (by first | exact .inl ⟨rfl, rfl⟩ | exact .inr rfl) ?_ rfl ?_; (intro hc args ha; simp [go_sem] at ha; subst ha; exact (ints_spec _ _)); simp [go_sem]; ((repeat' (first|(refine ag_x ?_;simp [go_sem])|intro _|refine And.intro ?_ ?_|(apply hKK;clear hKK KK)));all_goals first|refine Hold.mk ?_|omega|with_reducible assumption|(simp only [InR] at *;omega)|skip))
  (refine awp_ret ?_; simp [go_sem])
  obtain ⟨r1, r2, r3, r4, r5⟩ := r
  obtain ⟨s1, s2, s3, s4, s5⟩ := s
  rw [Bool.eq_iff_iff]
  simp [and_assoc]

theorem rsame_spec (t u : Tr) : PCall Try.prog 22 [dTr t, dTr u] fun r => r = dB (decide (t = u)) := by 
  refine pcall_of Try.func22 rfl rfl Try.ntmps22 (rs := [.tmp 4]) (tys := [4]) rfl rfl (by simp) ?_
  refine awp_len 0 rfl fun hlen => ?_
  simp [lensD, lensC] at hlen
  (refine awp_sr fun KK hKK => ?_; simp [go_sem]; ((repeat' (first|(refine ag_x ?_;simp [go_sem])|intro _|refine And.intro ?_ ?_|(apply hKK;clear hKK KK)));all_goals first|refine Hold.mk ?_|omega|with_reducible assumption|(simp only [InR] at *;omega)|skip))
  refine awp_frzbox 2 rfl rfl ?_
  refine awp_frzbox 3 rfl rfl ?_
  simp only [go_sem]
  refine awp_seq_k fun K1 hK1 => ?_
  (refine awp_sr fun KK hKK => ?_; simp [go_sem]; ((repeat' (first|(refine ag_x ?_;simp [go_sem])|intro _|refine And.intro ?_ ?_|(apply hKK;clear hKK KK)));all_goals first|refine Hold.mk ?_|omega|with_reducible assumption|(simp only [InR] at *;omega)|skip))
  (refine awp_if fun T F hT hF => ?_; simp [go_sem]; refine BR.intro (fun h2 => hT ?_) (fun h2 => hF ?_); all_goals clear hT hF T F; try simp at h2) 
  · (refine awp_sr fun KK hKK => ?_; simp [go_sem]; ((repeat' (first|(refine ag_x ?_;simp [go_sem])|intro _|refine And.intro ?_ ?_|(apply hKK;clear hKK KK)));all_goals first|refine Hold.mk ?_|omega|with_reducible assumption|(simp only [InR] at *;omega)|skip))
    (refine awp_ret ?_; simp [go_sem])
    rintro rfl
    simp at h2
  · refine awp_skip ?_
    refine hK1 _ ?_; clear hK1
    obtain ⟨⟨hr, hcl⟩, hel⟩ := h2
    have hcl : t.code.length = u.code.length := by omega
    have hel : t.exits.length = u.exits.length := by omega
    refine awp_seq_k fun K3 hK3 => ?_
    (refine awp_sr fun KK hKK => ?_; simp [go_sem]; ((repeat' (first|(refine ag_x ?_;simp [go_sem])|intro _|refine And.intro ?_ ?_|(apply hKK;clear hKK KK)));all_goals first|refine Hold.mk ?_|omega|with_reducible assumption|(simp only [InR] at *;omega)|skip))
    refine awp_block ?_
    refine awp_loop (σ := Nat) (fun k => ⟨[(2, .rd [dI t.regs, .sl 6 (t.code.map cIns), .sl 2 (t.exits.map cExi)]), (3, .rd [dI u.regs, .sl 6 (u.code.map cIns), .sl 2 (u.exits.map cExi)]), (5, dI k)], []⟩) (fun k => k ≤ t.code.length ∧ t.code.take k = u.code.take k) (fun k => t.code.length - k) 0 ?_ ?_ ?_
    · (refine cov_of ?_ ?_ <;> simp [go_sem])
    · simp
    rintro k ⟨hk, hall⟩
    refine awp_seq_k fun K4 hK4 => ?_
    (refine awp_sr fun KK hKK => ?_; simp [go_sem]; ((repeat' (first|(refine ag_x ?_;simp [go_sem])|intro _|refine And.intro ?_ ?_|(apply hKK;clear hKK KK)));all_goals first|refine Hold.mk ?_|omega|with_reducible assumption|(simp only [InR] at *;omega)|skip))
    (refine awp_if fun T F hT hF => ?_; simp [go_sem]; refine BR.intro (fun h5 => hT ?_) (fun h5 => hF ?_); all_goals clear hT hF T F; try simp at h5) 
    · refine awp_skip ?_
      refine hK4 _ ?_; clear hK4
      obtain ⟨x, hx⟩ : ∃ x, t.code[k]? = some x := ⟨_, List.getElem?_eq_getElem (by omega)⟩
      obtain ⟨y, hy⟩ : ∃ x, u.code[k]? = some x := ⟨_, List.getElem?_eq_getElem (by omega)⟩
      refine awp_seq_k fun K6 hK6 => ?_
      refine awp_block ?_
      ((refine awp_dr (.qs [0, 2, 5, 7, 1, 3, 4, 6, 8, 9, 10] (.nil)) (by kernel_rfl) ?_ ?_ ?_ ?_); (kernel_rfl); (exact (by decide +kernel)); (kernel_rfl); intro KK hKK; ((repeat' (first|(refine ag_x ?_;simp [go_sem, hx, hy])|refine adr_nil ?_|refine adr_two ?_ ?_|refine adr_kp2 ?_ ?_|((first|refine adr_qs fun KK hKK=>?_|refine adr_y fun KK hKK=>?_);simp [go_sem, hx, hy])|intro _|refine And.intro ?_ ?_|(apply hKK;clear hKK KK)));all_goals first|refine Hold.mk ?_|omega|with_reducible assumption|(simp only [InR] at *;omega)|skip))
      (refine awp_if fun T F hT hF => ?_; simp [go_sem]; refine BR.intro (fun h7 => hT ?_) (fun h7 => hF ?_); all_goals clear hT hF T F; try simp at h7) 
      · (refine awp_sr fun KK hKK => ?_; simp [go_sem]; ((repeat' (first|(refine ag_x ?_;simp [go_sem])|intro _|refine And.intro ?_ ?_|(apply hKK;clear hKK KK)));all_goals first|refine Hold.mk ?_|omega|with_reducible assumption|(simp only [InR] at *;omega)|skip))
        (refine awp_ret ?_; simp [go_sem])
        rintro rfl
        rw [hx] at hy
        simp at hy
        subst hy
        simp at h7
      · refine awp_skip ?_
        refine hK6 _ ?_; clear hK6
        have hxy : x = y := by
          obtain ⟨a1, a2, a3, a4, a5, a6⟩ := x
          obtain ⟨b1, b2, b3, b4, b5, b6⟩ := y
          simp at h7
          simp [h7]
        subst hxy
        (refine awp_r fun KK hKK => ?_; simp [go_sem]; ((repeat' (first|(refine ag_x ?_;simp [go_sem])|intro _|refine And.intro ?_ ?_|(apply hKK;clear hKK KK)));all_goals first|refine Hold.mk ?_|omega|with_reducible assumption|(simp only [InR] at *;omega)|skip))
        refine ⟨k + 1, ?_, ⟨by omega, take_step hall hx hy⟩, by omega⟩
        (refine cov_of ?_ ?_ <;> simp [go_sem])
    · refine awp_exit ?_
      simp only [go_sem]
      refine hK3 _ ?_; clear hK3
      have : k = t.code.length := by omega
      subst this
      have hcode : t.code = u.code := take_full hcl hall
      refine awp_seq_k fun K8 hK8 => ?_
      (refine awp_sr fun KK hKK => ?_; simp [go_sem]; ((repeat' (first|(refine ag_x ?_;simp [go_sem])|intro _|refine And.intro ?_ ?_|(apply hKK;clear hKK KK)));all_goals first|refine Hold.mk ?_|omega|with_reducible assumption|(simp only [InR] at *;omega)|skip))
      refine awp_block ?_
      refine awp_loop (σ := Nat) (fun k => ⟨[(2, .rd [dI t.regs, .sl 6 (t.code.map cIns), .sl 2 (t.exits.map cExi)]), (3, .rd [dI u.regs, .sl 6 (u.code.map cIns), .sl 2 (u.exits.map cExi)]), (6, dI k)], []⟩) (fun k => k ≤ t.exits.length ∧ t.exits.take k = u.exits.take k) (fun k => t.exits.length - k) 0 ?_ ?_ ?_
      · (refine cov_of ?_ ?_ <;> simp [go_sem])
      · simp
      clear hall hk
      rintro k ⟨hk, hall⟩
      refine awp_seq_k fun K9 hK9 => ?_
      (refine awp_sr fun KK hKK => ?_; simp [go_sem]; ((repeat' (first|(refine ag_x ?_;simp [go_sem])|intro _|refine And.intro ?_ ?_|(apply hKK;clear hKK KK)));all_goals first|refine Hold.mk ?_|omega|with_reducible assumption|(simp only [InR] at *;omega)|skip))
      (refine awp_if fun T F hT hF => ?_; simp [go_sem]; refine BR.intro (fun h10 => hT ?_) (fun h10 => hF ?_); all_goals clear hT hF T F; try simp at h10) 
      · refine awp_skip ?_
        refine hK9 _ ?_; clear hK9
        obtain ⟨x, hx⟩ : ∃ x, t.exits[k]? = some x := ⟨_, List.getElem?_eq_getElem (by omega)⟩
        obtain ⟨y, hy⟩ : ∃ x, u.exits[k]? = some x := ⟨_, List.getElem?_eq_getElem (by omega)⟩
        have hne : t = u → x = y := fun e => by subst e; rw [hx] at hy; simpa using hy
        refine awp_seq_k fun K11 hK11 => ?_
        refine awp_block ?_
        (refine awp_sr fun KK hKK => ?_; simp [go_sem, hx]; ((repeat' (first|(refine ag_x ?_;simp [go_sem, hx])|intro _|refine And.intro ?_ ?_|(apply hKK;clear hKK KK)));all_goals first|refine Hold.mk ?_|omega|with_reducible assumption|(simp only [InR] at *;omega)|skip))
        (refine awp_sr fun KK hKK => ?_; simp [go_sem, hy]; ((repeat' (first|(refine ag_x ?_;simp [go_sem, hy])|intro _|refine And.intro ?_ ?_|(apply hKK;clear hKK KK)));all_goals first|refine Hold.mk ?_|omega|with_reducible assumption|(simp only [InR] at *;omega)|skip))
        refine awp_seq_k fun K12 hK12 => ?_
        (refine awp_sr fun KK hKK => ?_; simp [go_sem]; ((repeat' (first|(refine ag_x ?_;simp [go_sem])|intro _|refine And.intro ?_ ?_|(apply hKK;clear hKK KK)));all_goals first|refine Hold.mk ?_|omega|with_reducible assumption|(simp only [InR] at *;omega)|skip))
        (refine awp_if fun T F hT hF => ?_; simp [go_sem]; refine BR.intro (fun h13 => hT ?_) (fun h13 => hF ?_); all_goals clear hT hF T F; try simp at h13) 
        · (refine awp_sr fun KK hKK => ?_; simp [go_sem]; ((repeat' (first|(refine ag_x ?_;simp [go_sem])|intro _|refine And.intro ?_ ?_|(apply hKK;clear hKK KK)));all_goals first|refine Hold.mk ?_|omega|with_reducible assumption|(simp only [InR] at *;omega)|skip))
          (refine awp_ret ?_; simp [go_sem])
          intro e
          have := hne e
          subst this
          simp at h13
        · refine awp_skip ?_
          refine hK12 _ ?_; clear hK12
          have hsl : x.slots.length = y.slots.length := by omega
          (refine awp_sr fun KK hKK => ?_; simp [go_sem]; ((repeat' (first|(refine ag_x ?_;simp [go_sem])|intro _|refine And.intro ?_ ?_|(apply hKK;clear hKK KK)));all_goals first|refine Hold.mk ?_|omega|with_reducible assumption|(simp only [InR] at *;omega)|skip))
          refine awp_frzbox 7 rfl rfl ?_
          refine awp_frzbox 8 rfl rfl ?_
          simp only [go_sem]
          refine awp_len 7 rfl fun hlen2 => ?_
          simp [lensD, lensC] at hlen2
          refine awp_block ?_
          refine awp_loop (σ := Nat) (fun j => ⟨[(2, .rd [dI t.regs, .sl 6 (t.code.map cIns), .sl 2 (t.exits.map cExi)]), (3, .rd [dI u.regs, .sl 6 (u.code.map cIns), .sl 2 (u.exits.map cExi)]), (6, dI k), (7, .rd (cExi x)), (8, .rd (cExi y)), (9, dI j)], []⟩) (fun j => j ≤ x.slots.length ∧ x.slots.take j = y.slots.take j) (fun j => x.slots.length - j) 0 ?_ ?_ ?_
          · (refine cov_of ?_ ?_ <;> simp [go_sem])
          · simp
          rintro j ⟨hj, hallj⟩
          refine awp_seq_k fun K14 hK14 => ?_
          (refine awp_sr fun KK hKK => ?_; simp [go_sem]; ((repeat' (first|(refine ag_x ?_;simp [go_sem])|intro _|refine And.intro ?_ ?_|(apply hKK;clear hKK KK)));all_goals first|refine Hold.mk ?_|omega|with_reducible assumption|(simp only [InR] at *;omega)|skip))
          (refine awp_if fun T F hT hF => ?_; simp [go_sem]; refine BR.intro (fun h15 => hT ?_) (fun h15 => hF ?_); all_goals clear hT hF T F; try simp at h15) 
          · refine awp_skip ?_
            refine hK14 _ ?_; clear hK14
            obtain ⟨p, hp⟩ : ∃ v, x.slots[j]? = some v := ⟨_, List.getElem?_eq_getElem (by omega)⟩
            obtain ⟨q, hq⟩ : ∃ v, y.slots[j]? = some v := ⟨_, List.getElem?_eq_getElem (by omega)⟩
            refine awp_seq_k fun K16 hK16 => ?_
            refine awp_block ?_
            ((refine awp_dr (.qs [0, 2, 5, 7, 1, 3, 4, 6, 8, 9, 10] (.nil)) (by kernel_rfl) ?_ ?_ ?_ ?_); (kernel_rfl); (exact (by decide +kernel)); (kernel_rfl); intro KK hKK; ((repeat' (first|(refine ag_x ?_;simp [go_sem, hp, hq])|refine adr_nil ?_|refine adr_two ?_ ?_|refine adr_kp2 ?_ ?_|((first|refine adr_qs fun KK hKK=>?_|refine adr_y fun KK hKK=>?_);simp [go_sem, hp, hq])|intro _|refine And.intro ?_ ?_|(apply hKK;clear hKK KK)));all_goals first|refine Hold.mk ?_|omega|with_reducible assumption|(simp only [InR] at *;omega)|skip))
            (refine awp_if fun T F hT hF => ?_; simp [go_sem]; refine BR.intro (fun h17 => hT ?_) (fun h17 => hF ?_); all_goals clear hT hF T F; try simp at h17) 
            · (refine awp_sr fun KK hKK => ?_; simp [go_sem]; ((repeat' (first|(refine ag_x ?_;simp [go_sem])|intro _|refine And.intro ?_ ?_|(apply hKK;clear hKK KK)));all_goals first|refine Hold.mk ?_|omega|with_reducible assumption|(simp only [InR] at *;omega)|skip))
              (refine awp_ret ?_; simp [go_sem])
              intro e
              have := hne e
              subst this
              rw [hp] at hq
              simp at hq
              exact h17 hq
            · refine awp_skip ?_
              refine hK16 _ ?_; clear hK16
              subst h17
              (refine awp_r fun KK hKK => ?_; simp [go_sem]; ((repeat' (first|(refine ag_x ?_;simp [go_sem])|intro _|refine And.intro ?_ ?_|(apply hKK;clear hKK KK)));all_goals first|refine Hold.mk ?_|omega|with_reducible assumption|(simp only [InR] at *;omega)|skip))
              refine ⟨j + 1, ?_, ⟨by omega, take_step hallj hp hq⟩, by omega⟩
              (refine cov_of ?_ ?_ <;> simp [go_sem])
          · refine awp_exit ?_
            simp only [go_sem]
            refine hK11 _ ?_; clear hK11
            have : j = x.slots.length := by omega
            subst this
            have hse : x.slots = y.slots := take_full hsl hallj
            have hxy : x = y := by
              obtain ⟨xb, xs⟩ := x
              obtain ⟨yb, ys⟩ := y
              simp at hse h13
              simp [hse, h13.1]
            subst hxy
            (refine awp_r fun KK hKK => ?_; simp [go_sem]; ((repeat' (first|(refine ag_x ?_;simp [go_sem])|intro _|refine And.intro ?_ ?_|(apply hKK;clear hKK KK)));all_goals first|refine Hold.mk ?_|omega|with_reducible assumption|(simp only [InR] at *;omega)|skip))
            refine ⟨k + 1, ?_, ⟨by omega, take_step hall hx hy⟩, by omega⟩
            (refine cov_of ?_ ?_ <;> simp [go_sem])
      · refine awp_exit ?_
        simp only [go_sem]
        refine hK8 _ ?_; clear hK8
        have : k = t.exits.length := by omega
        subst this
        have hexits : t.exits = u.exits := take_full hel hall
        (refine awp_sr fun KK hKK => ?_; simp [go_sem]; ((repeat' (first|(refine ag_x ?_;simp [go_sem])|intro _|refine And.intro ?_ ?_|(apply hKK;clear hKK KK)));all_goals first|refine Hold.mk ?_|omega|with_reducible assumption|(simp only [InR] at *;omega)|skip))
        (refine awp_ret ?_; simp [go_sem])
        obtain ⟨a1, a2, a3⟩ := t
        obtain ⟨b1, b2, b3⟩ := u
        simp_all

def ctrTr : Tr := ⟨4, [⟨2, 0, 0, 1, 0, 0⟩, ⟨7, 2, 0, 3, 0, 0⟩, ⟨9, 0, 2, 0, 1, 1⟩], [⟨7, []⟩, ⟨8, [0]⟩]⟩
theorem counter_spec : PCall Try.prog 36 [] fun r => r = dTr ctrTr := by 
  refine PCall.weak (d := .agg [dI 4, .sl 6 (ctrTr.code.map cIns), .sl 2 [[dI 7, .v (.slice none 0 0)], [dI 8, dIs [0]]]]) ?_ ?_
  · refine pcall_of Try.func36 rfl rfl Try.ntmps36 (rs := [.cell 0 25]) (tys := [25]) rfl rfl (by simp) ?_
    (refine awp_sr fun KK hKK => ?_; simp [go_sem]; ((repeat' (first|(refine ag_x ?_;simp [go_sem])|intro _|refine And.intro ?_ ?_|(apply hKK;clear hKK KK)));all_goals first|refine Hold.mk ?_|omega|with_reducible assumption|(simp only [InR] at *;omega)|skip))
    (refine awp_sr fun KK hKK => ?_; simp [go_sem]; ((repeat' (first|(refine ag_x ?_;simp [go_sem])|intro _|refine And.intro ?_ ?_|(apply hKK;clear hKK KK)));all_goals first|refine Hold.mk ?_|omega|with_reducible assumption|(simp only [InR] at *;omega)|skip))
    (refine awp_ret ?_; simp [go_sem, ctrTr])
  · exact Weak.agg ⟨Weak.refl _, Weak.refl _, Weak.sl ⟨⟨Weak.refl _, Weak.nil _, trivial⟩, ⟨Weak.refl _, Weak.refl _, trivial⟩, trivial⟩, trivial⟩
theorem ctr_run : runV ctrTr [0, 1, 0, 3] 10 = ⟨1, 8, 3, [3], []⟩ := by decide +kernel
theorem ctr_fit : fitOk ctrTr [0, 1, 0, 3] 10 = true := by decide +kernel
theorem sane_spec : PCall Try.prog 15 [] fun r => r = dB true := by 
  refine pcall_of Try.func15 rfl rfl Try.ntmps15 (rs := [.tmp 0]) (tys := [4]) rfl rfl (by simp) ?_
  (refine awp_sr fun KK hKK => ?_; simp [go_sem]; ((repeat' (first|(refine ag_x ?_;simp [go_sem])|intro _|refine And.intro ?_ ?_|(apply hKK;clear hKK KK)));all_goals first|refine Hold.mk ?_|omega|with_reducible assumption|(simp only [InR] at *;omega)|skip))
  (refine awp_sr fun KK hKK => ?_; simp [go_sem]; ((repeat' (first|(refine ag_x ?_;simp [go_sem])|intro _|refine And.intro ?_ ?_|(apply hKK;clear hKK KK)));all_goals first|refine Hold.mk ?_|omega|with_reducible assumption|(simp only [InR] at *;omega)|skip))
  ((try refine CallT.toA ?_); refine callT_m (by first | exact .inl ⟨rfl, rfl⟩ | exact .inr rfl) (by simp [go_sem]) ?_; intro args ha; simp [go_sem] at ha; subst ha; refine ⟨_, counter_spec, ?_⟩; rintro _ rfl; simp [go_sem]; ((repeat' (first|(refine ag_x ?_;simp [go_sem])|intro _|refine And.intro ?_ ?_|(apply hKK;clear hKK KK)));all_goals first|refine Hold.mk ?_|omega|with_reducible assumption|(simp only [InR] at *;omega)|skip))
  ((try refine CallT.toA ?_); refine callT_z (by first | exact .inl ⟨rfl, rfl⟩ | exact .inr rfl) rfl (by simp [go_sem]) (by simp [go_sem]) ?_; intro args ha; simp [go_sem] at ha; subst ha; refine ⟨_, (run_spec ctrTr [0, 1, 0, 3] 10), ?_⟩; rintro _ rfl; simp [go_sem, ctr_run, ctr_fit]; ((repeat' (first|(refine ag_x ?_;simp [go_sem, ctr_run, ctr_fit])|intro _|refine And.intro ?_ ?_|(apply hKK;clear hKK KK)));all_goals first|refine Hold.mk ?_|omega|with_reducible assumption|(simp only [InR] at *;omega)|skip))
  (refine awp_sr fun KK hKK => ?_; simp [go_sem]; ((repeat' (first|(refine ag_x ?_;simp [go_sem])|intro _|refine And.intro ?_ ?_|(apply hKK;clear hKK KK)));all_goals first|refine Hold.mk ?_|omega|with_reducible assumption|(simp only [InR] at *;omega)|skip))
  (refine agc_f (dB true) (by first | exact .inl ⟨rfl, rfl⟩ | exact .inr rfl) ?_ rfl ?_; (intro hc args ha; simp [go_sem] at ha; subst ha; exact (ints_spec [3] [3])); simp [go_sem]; ((repeat' (first|(refine ag_x ?_;simp [go_sem])|intro _|refine And.intro ?_ ?_|(apply hKK;clear hKK KK)));all_goals first|refine Hold.mk ?_|omega|with_reducible assumption|(simp only [InR] at *;omega)|skip))
  (refine awp_ret ?_; simp [go_sem])
end Go.Proofs.Ytmgbaegdkjcagaa
