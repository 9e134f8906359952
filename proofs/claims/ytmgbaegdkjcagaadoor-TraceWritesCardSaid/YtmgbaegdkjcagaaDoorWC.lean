/- Part of a proof: see the last text. -/
import Derived.Test.YtmgbaegdkjcagaaDoorWB
set_option linter.unusedVariables false
set_option linter.unusedSimpArgs false
set_option linter.unusedSimpArgs false
set_option linter.unusedVariables false
namespace Go.Proofs.YtmgbaegdkjcagaaDoor
open Go.Eng
set_option maxRecDepth 20000
attribute [local irreducible] AG CallA CallT AWp PCall ACall AgC

@[go_sem] theorem ba_app (a b : Array UInt8) : (⟨a⟩ : ByteArray) ++ ⟨b⟩ = ⟨a ++ b⟩ := by
  apply ByteArray.ext
  simp
@[go_sem] theorem ba_size (a : Array UInt8) : (⟨a⟩ : ByteArray).size = a.size := rfl

theorem itoa_len {n : Int} (h : InR n) : (Lib.itoa n).length ≤ 21 := Lib.itoa_length_le n h.1 h.2
theorem slB_len : ∀ (l : List Int), (∀ x ∈ l, InR x) → (slB l).length ≤ 22 * l.length
  | [], _ => by simp [slB]
  | x :: l, h => by
    have h1 := itoa_len (h x (by simp))
    have h2 := slB_len l (fun y hy => h y (by simp [hy]))
    have e : slB (x :: l) = (32 :: Lib.itoa x) ++ slB l := rfl
    rw [e]
    simp only [List.length_append, List.length_cons]
    omega
theorem nm_len (op : Int) : (nmAt op).length ≤ 5 := by
  unfold nmAt
  generalize op.toNat = k
  match k with
  | 0 | 1 | 2 | 3 | 4 | 5 | 6 | 7 | 8 | 9 | 10 => decide
  | k + 11 => simp [namesL, List.getD]
theorem fldB_len {i : Ins} {l : List UInt8} (h : ∀ c ∈ l, InR (fVal i c.toNat)) : (fldB i l).length ≤ 22 * l.length := by
  rw [fldB_eq]
  have := slB_len (l.map fun c => fVal i c.toNat) (by simpa using h)
  simpa using this
theorem fldB_step {i : Ins} {l : List UInt8} {j : Nat} {c : UInt8} (h : l[j]? = some c) : fldB i (l.take (j + 1)) = fldB i (l.take j) ++ 32 :: Lib.itoa (fVal i c.toNat) := by
  unfold fldB
  rw [List.take_add_one, h, List.flatMap_append]
  simp
theorem slB_step {l : List Int} {j : Nat} {c : Int} (h : l[j]? = some c) : slB (l.take (j + 1)) = slB (l.take j) ++ 32 :: Lib.itoa c := by
  unfold slB
  rw [List.take_add_one, h, List.flatMap_append]
  simp
theorem codeB_step {l : List Ins} {j : Nat} {c : Ins} (h : l[j]? = some c) : codeB (l.take (j + 1)) = codeB (l.take j) ++ (insL c ++ [10]) := by
  unfold codeB
  rw [List.take_add_one, h, List.flatMap_append]
  simp
theorem exitsB_step {l : List Exi} {j : Nat} {c : Exi} (h : l[j]? = some c) : exitsB (l.take (j + 1)) = exitsB (l.take j) ++ (exiL c ++ [10]) := by
  unfold exitsB
  rw [List.take_add_one, h, List.flatMap_append]
  simp
theorem ins_inr {regs nex : Int} {i : Ins} (h : insOk regs nex i = true) (hr : regs ≤ 20) (hn : nex ≤ 10) : ∀ c ∈ flds i.op, InR (fVal i c.toNat) := fun c hc => fVal_inr h hr hn _ (List.mem_map_of_mem hc)
theorem insL_len {regs nex : Int} {i : Ins} (h : insOk regs nex i = true) (hr : regs ≤ 20) (hn : nex ≤ 10) : (insL i).length ≤ 99 := by
  have h1 := nm_len i.op
  have h2 := fldB_len (ins_inr h hr hn)
  have h3 := flds_len i.op
  unfold insL
  rw [List.length_append]
  omega
theorem codeB_len {regs nex : Int} (hr : regs ≤ 20) (hn : nex ≤ 10) : ∀ (l : List Ins), (∀ i ∈ l, insOk regs nex i = true) → (codeB l).length ≤ 100 * l.length
  | [], _ => by simp [codeB]
  | i :: l, h => by
    have h1 := insL_len (h i (by simp)) hr hn
    have h2 := codeB_len hr hn l (fun y hy => h y (by simp [hy]))
    have e : codeB (i :: l) = (insL i ++ [10]) ++ codeB l := rfl
    rw [e]
    simp only [List.length_append, List.length_cons, List.length_nil]
    omega
theorem ex_inr {regs : Int} {x : Exi} (h : exOk regs x = true) (hr : regs ≤ 20) : (∀ s ∈ x.slots, InR s) ∧ x.slots.length ≤ 20 := by
  simp [exOk, slotBad] at h
  exact ⟨fun s hs => by have := h.2 s hs; simp [InR]; omega, by omega⟩
theorem exiL_len {regs : Int} {x : Exi} (h : exOk regs x = true) (hr : regs ≤ 20) (hb : InR x.back) : (exiL x).length ≤ 499 := by
  obtain ⟨h1, h2⟩ := ex_inr h hr
  have h3 := slB_len x.slots h1
  have h4 := itoa_len hb
  unfold exiL
  simp only [List.length_append, List.length_cons, List.length_nil]
  omega
theorem exitsB_len {regs : Int} (hr : regs ≤ 20) : ∀ (l : List Exi), (∀ x ∈ l, exOk regs x = true ∧ InR x.back) → (exitsB l).length ≤ 500 * l.length
  | [], _ => by simp [exitsB]
  | x :: l, h => by
    have h1 := exiL_len (h x (by simp)).1 hr (h x (by simp)).2
    have h2 := exitsB_len hr l (fun y hy => h y (by simp [hy]))
    have e : exitsB (x :: l) = (exiL x ++ [10]) ++ exitsB l := rfl
    rw [e]
    simp only [List.length_append, List.length_cons, List.length_nil]
    omega
theorem regL_len {t : Tr} (h : trOk t = true) : (regL t).length ≤ 26 := by
  have := trOk_sizes h
  have := itoa_len (n := t.regs) (by simp [InR]; omega)
  unfold regL
  simp only [List.length_append, List.length_cons, List.length_nil]
  omega
theorem textV_len {t : Tr} (h : trOk t = true) (hb : bkOk t) : (textV t).length ≤ 12000 := by
  have hs := trOk_sizes h
  have h1 := regL_len h
  have h2 := codeB_len (regs := t.regs) (nex := t.exits.length) hs.2.1 (by omega) t.code (trOk_code h)
  have h3 := exitsB_len (regs := t.regs) hs.2.1 t.exits (fun x hx => ⟨trOk_exits h x hx, hb x hx⟩)
  unfold textV
  simp only [List.length_append, List.length_cons, List.length_nil]
  omega
end Go.Proofs.YtmgbaegdkjcagaaDoor

set_option linter.unusedSimpArgs false
set_option linter.unusedVariables false
namespace Go.Proofs.YtmgbaegdkjcagaaDoor
open Go.Eng
set_option maxRecDepth 20000
attribute [local irreducible] AG CallA CallT AWp PCall ACall AgC

theorem nm_at {op : Int} (h0 : 0 ≤ op) (h1 : op ≤ 10) : (namesL.map cS)[op.toNat]? = some (cS (nmAt op)) := by
  unfold nmAt
  rw [List.getElem?_map, List.getD_eq_getElem?_getD]
  have : op.toNat < namesL.length := by simp [namesL]; omega
  rw [List.getElem?_eq_getElem this]
  rfl
set_option maxHeartbeats 8000000 in
theorem text_spec (t : Tr) (hb : bkOk t) : PCall Tryd.prog 7 [dTr t] fun r => r = .tup [dS (if trOk t then textV t else []), dI (if trOk t then 0 else 1)] := by 
  refine pcall_of Tryd.func7 rfl rfl Tryd.ntmps7 (rs := [.tmp 2, .tmp 3]) (tys := [9, 28]) rfl rfl (by simp) ?_
  (refine awp_sr fun KK hKK => ?_; simp [go_sem]; ((repeat' (first|(refine ag_x ?_;simp [go_sem])|intro _|refine And.intro ?_ ?_|(apply hKK;clear hKK KK)));all_goals first|refine Hold.mk ?_|omega|with_reducible assumption|(simp only [InR] at *;omega)|skip))
  rename_i g1
  refine awp_frzbox 1 rfl rfl ?_
  simp only [go_sem]
  refine awp_seq_k fun K1 hK1 => ?_
  (refine awp_sr fun KK hKK => ?_; simp [go_sem]; ((repeat' (first|(refine ag_x ?_;simp [go_sem])|intro _|refine And.intro ?_ ?_|(apply hKK;clear hKK KK)));all_goals first|refine Hold.mk ?_|omega|with_reducible assumption|(simp only [InR] at *;omega)|skip))
  ((try refine CallT.toA ?_); refine callT_m (by first | exact .inl ⟨rfl, rfl⟩ | exact .inr rfl) (by simp [go_sem]) ?_; intro args ha; simp [go_sem] at ha; subst ha; refine ⟨_, (check_spec _), ?_⟩; rintro _ rfl; simp [go_sem]; ((repeat' (first|(refine ag_x ?_;simp [go_sem])|intro _|refine And.intro ?_ ?_|(apply hKK;clear hKK KK)));all_goals first|refine Hold.mk ?_|omega|with_reducible assumption|(simp only [InR] at *;omega)|skip))
  (refine awp_if fun T F hT hF => ?_; simp [go_sem]; refine BR.intro (fun h2 => hT ?_) (fun h2 => hF ?_); all_goals clear hT hF T F; try simp at h2) 
  · (refine awp_sr fun KK hKK => ?_; simp [go_sem]; ((repeat' (first|(refine ag_x ?_;simp [go_sem])|intro _|refine And.intro ?_ ?_|(apply hKK;clear hKK KK)));all_goals first|refine Hold.mk ?_|omega|with_reducible assumption|(simp only [InR] at *;omega)|skip))
    (refine awp_ret ?_; simp [go_sem, h2])
  · refine awp_skip ?_
    refine hK1 _ ?_; clear hK1
    have hs := trOk_sizes h2
    have hreg : InR t.regs := by simp [InR]; omega
    have hrl := regL_len h2
    have hil := itoa_len hreg
    refine awp_bld 56 5 900000 900001 (by decide) (by decide) zr56 fun gb gr => ?_
    (refine awp_sr fun KK hKK => ?_; simp [go_sem]; ((repeat' (first|(refine ag_x ?_;simp [go_sem])|intro _|refine And.intro ?_ ?_|(apply hKK;clear hKK KK)));all_goals first|refine Hold.mk ?_|omega|with_reducible assumption|(simp only [InR] at *;omega)|skip))
    ((try refine CallT.toA ?_); refine callT_m (by first | exact .inl ⟨rfl, rfl⟩ | exact .inr rfl) (by simp [go_sem]) ?_; intro args ha; simp [go_sem] at ha; subst ha; refine ⟨_, (itoa_spec _ hreg), ?_⟩; rintro _ rfl; simp [go_sem]; ((repeat' (first|(refine ag_x ?_;simp [go_sem])|intro _|refine And.intro ?_ ?_|(apply hKK;clear hKK KK)));all_goals first|refine Hold.mk ?_|omega|with_reducible assumption|(simp only [InR] at *;omega)|skip))
    (refine callA_l [900000, 900001] (by first | exact .inl ⟨rfl, rfl⟩ | exact .inr rfl) (by simp [go_sem]) ?_; intro args ha; simp [go_sem] at ha; subst ha; refine ⟨_, _, (ws_spec 900000 900001 gb gr [] _ (by decide) (by decide) (by decide) (by simp; omega)), (by simp [go_sem]), ?_⟩; rintro ps r hps ⟨gr1, rfl, rfl⟩; simp [go_sem]; ((repeat' (first|(refine ag_x ?_;simp [go_sem])|intro _|refine And.intro ?_ ?_|(apply hKK;clear hKK KK)));all_goals first|refine Hold.mk ?_|omega|with_reducible assumption|(simp only [InR] at *;omega)|skip))
    refine awp_seq_k fun K3 hK3 => ?_
    (refine awp_sr fun KK hKK => ?_; simp [go_sem]; ((repeat' (first|(refine ag_x ?_;simp [go_sem])|intro _|refine And.intro ?_ ?_|(apply hKK;clear hKK KK)));all_goals first|refine Hold.mk ?_|omega|with_reducible assumption|(simp only [InR] at *;omega)|skip))
    refine awp_block ?_
    refine awp_loop (σ := Nat × Nat) (fun x => ⟨[(1, .rd [dI t.regs, .sl 6 (t.code.map cIns), .sl 2 (t.exits.map cExi)]), (4, .ptr 900000 gb 0), (23, .sl 6 (t.code.map cIns)), (24, dI t.code.length), (25, dI x.1)],
      [(900000, (gb, .bld 56 900001 x.2)), (900001, (x.2, .brow 5 (regL t ++ [10] ++ codeB (t.code.take x.1))))]⟩) (fun x => x.1 ≤ t.code.length) (fun x => t.code.length - x.1) (0, gr1) ?_ ?_ ?_
    · (refine cov_of ?_ ?_ <;> simp [go_sem, codeB, regL])
    · simp
    rintro ⟨k, gr⟩ hk
    simp only at hk
    (refine awp_sr fun KK hKK => ?_; simp [go_sem]; ((repeat' (first|(refine ag_x ?_;simp [go_sem])|intro _|refine And.intro ?_ ?_|(apply hKK;clear hKK KK)));all_goals first|refine Hold.mk ?_|omega|with_reducible assumption|(simp only [InR] at *;omega)|skip))
    refine awp_seq_k fun K4 hK4 => ?_
    (refine awp_if fun T F hT hF => ?_; simp [go_sem]; refine BR.intro (fun h5 => hT ?_) (fun h5 => hF ?_); all_goals clear hT hF T F; try simp at h5) 
    · refine awp_skip ?_
      refine hK4 _ ?_; clear hK4
      obtain ⟨i, hi⟩ : ∃ x, t.code[k]? = some x := ⟨_, List.getElem?_eq_getElem h5⟩
      have hins := trOk_code h2 i (List.mem_of_getElem? hi)
      obtain ⟨ho0, ho1⟩ := insOk_op hins
      have hcl := codeB_len (regs := t.regs) (nex := t.exits.length) hs.2.1 (by omega) (t.code.take k) (fun j hj => trOk_code h2 j (List.mem_of_mem_take hj))
      have hnl := nm_len i.op
      have hfi := ins_inr hins hs.2.1 (by omega)
      have hfl := flds_len i.op
      rw [List.length_take] at hcl
      refine awp_seq_k fun K6 hK6 => ?_
      refine awp_block ?_
      (refine awp_sr fun KK hKK => ?_; simp [go_sem, hi]; ((repeat' (first|(refine ag_x ?_;simp [go_sem, hi])|intro _|refine And.intro ?_ ?_|(apply hKK;clear hKK KK)));all_goals first|refine Hold.mk ?_|omega|with_reducible assumption|(simp only [InR] at *;omega)|skip))
      rename_i g6
      refine awp_frzbox 6 rfl rfl ?_
      simp only [go_sem]
      ((refine awp_dr (.qs [1, 2] (.kp 0 (.qs [3] (.one 4 (.one 5 (.nil)))))) (by kernel_rfl) ?_ ?_ ?_ ?_); (kernel_rfl); (exact (by decide +kernel)); (kernel_rfl); intro KK hKK; ((repeat' (first|(refine ag_x ?_;simp [go_sem, nm_at ho0 ho1])|refine adr_nil ?_|refine adr_two ?_ ?_|refine adr_kp2 ?_ ?_|((first|refine adr_qs fun KK hKK=>?_|refine adr_y fun KK hKK=>?_);simp [go_sem, nm_at ho0 ho1])|intro _|refine And.intro ?_ ?_|(apply hKK;clear hKK KK)));all_goals first|refine Hold.mk ?_|omega|with_reducible assumption|(simp only [InR] at *;omega)|skip))
      ((try refine CallT.toA ?_); refine callT_m (by first | exact .inl ⟨rfl, rfl⟩ | exact .inr rfl) (by simp [go_sem]) ?_; intro args ha; simp [go_sem] at ha; subst ha; refine ⟨_, names_spec, ?_⟩; rintro _ rfl; simp [go_sem, nm_at ho0 ho1]; ((repeat' (first|(refine ag_x ?_;simp [go_sem, nm_at ho0 ho1])|refine adr_nil ?_|refine adr_two ?_ ?_|refine adr_kp2 ?_ ?_|((first|refine adr_qs fun KK hKK=>?_|refine adr_y fun KK hKK=>?_);simp [go_sem, nm_at ho0 ho1])|intro _|refine And.intro ?_ ?_|(apply hKK;clear hKK KK)));all_goals first|refine Hold.mk ?_|omega|with_reducible assumption|(simp only [InR] at *;omega)|skip))
      (refine callA_l [900000, 900001] (by first | exact .inl ⟨rfl, rfl⟩ | exact .inr rfl) (by simp [go_sem]) ?_; intro args ha; simp [go_sem] at ha; subst ha; refine ⟨_, _, (ws_spec 900000 900001 gb gr (regL t ++ [10] ++ codeB (t.code.take k)) _ (by decide) (by decide) (by decide) (by simp; omega)), (by simp [go_sem]), ?_⟩; rintro ps r hps ⟨gr2, rfl, rfl⟩; simp [go_sem]; ((repeat' (first|(refine ag_x ?_;simp [go_sem])|refine adr_nil ?_|refine adr_two ?_ ?_|refine adr_kp2 ?_ ?_|((first|refine adr_qs fun KK hKK=>?_|refine adr_y fun KK hKK=>?_);simp [go_sem])|intro _|refine And.intro ?_ ?_|(apply hKK;clear hKK KK)));all_goals first|refine Hold.mk ?_|omega|with_reducible assumption|(simp only [InR] at *;omega)|skip))
      refine awp_seq_k fun K7 hK7 => ?_
      (refine awp_sr fun KK hKK => ?_; simp [go_sem]; ((repeat' (first|(refine ag_x ?_;simp [go_sem])|intro _|refine And.intro ?_ ?_|(apply hKK;clear hKK KK)));all_goals first|refine Hold.mk ?_|omega|with_reducible assumption|(simp only [InR] at *;omega)|skip))
      ((try refine CallT.toA ?_); refine callT_m (by first | exact .inl ⟨rfl, rfl⟩ | exact .inr rfl) (by simp [go_sem]) ?_; intro args ha; simp [go_sem] at ha; subst ha; refine ⟨_, (fields_spec _), ?_⟩; rintro _ rfl; simp [go_sem]; ((repeat' (first|(refine ag_x ?_;simp [go_sem])|intro _|refine And.intro ?_ ?_|(apply hKK;clear hKK KK)));all_goals first|refine Hold.mk ?_|omega|with_reducible assumption|(simp only [InR] at *;omega)|skip))
      refine awp_block ?_
      refine awp_loop (σ := Nat × Nat) (fun x => ⟨[(1, .rd [dI t.regs, .sl 6 (t.code.map cIns), .sl 2 (t.exits.map cExi)]), (4, .ptr 900000 gb 0), (6, .rd (cIns i)), (23, .sl 6 (t.code.map cIns)), (24, dI t.code.length), (25, dI k), (38, dBs (flds i.op)), (39, dI (flds i.op).length), (40, dI x.1)],
        [(900000, (gb, .bld 56 900001 x.2)), (900001, (x.2, .brow 5 (regL t ++ [10] ++ codeB (t.code.take k) ++ (nmAt i.op ++ fldB i ((flds i.op).take x.1)))))]⟩) (fun x => x.1 ≤ (flds i.op).length) (fun x => (flds i.op).length - x.1) (0, gr2) ?_ ?_ ?_
      · (refine cov_of ?_ ?_ <;> simp [go_sem, fldB, dBytes])
      · simp
      rintro ⟨j, gr⟩ hj
      simp only at hj
      (refine awp_sr fun KK hKK => ?_; simp [go_sem]; ((repeat' (first|(refine ag_x ?_;simp [go_sem])|intro _|refine And.intro ?_ ?_|(apply hKK;clear hKK KK)));all_goals first|refine Hold.mk ?_|omega|with_reducible assumption|(simp only [InR] at *;omega)|skip))
      refine awp_seq_k fun K8 hK8 => ?_
      (refine awp_if fun T F hT hF => ?_; simp [go_sem]; refine BR.intro (fun h9 => hT ?_) (fun h9 => hF ?_); all_goals clear hT hF T F; try simp at h9) 
      · refine awp_skip ?_
        refine hK8 _ ?_; clear hK8
        obtain ⟨c, hc⟩ : ∃ x, (flds i.op)[j]? = some x := ⟨_, List.getElem?_eq_getElem h9⟩
        have hfc := hfi c (List.mem_of_getElem? hc)
        have hic := itoa_len hfc
        have hfb := fldB_len (i := i) (l := (flds i.op).take j) (fun c hc => hfi c (List.mem_of_mem_take hc))
        rw [List.length_take] at hfb
        have hst := fldB_step (i := i) hc
        refine awp_seq_k fun K10 hK10 => ?_
        refine awp_block ?_
        (refine awp_sr fun KK hKK => ?_; simp [go_sem, hc]; ((repeat' (first|(refine ag_x ?_;simp [go_sem, hc])|intro _|refine And.intro ?_ ?_|(apply hKK;clear hKK KK)));all_goals first|refine Hold.mk ?_|omega|with_reducible assumption|(simp only [InR] at *;omega)|skip))
        (refine awp_r fun KK hKK => ?_; simp [go_sem]; ((repeat' (first|(refine ag_x ?_;simp [go_sem])|intro _|refine And.intro ?_ ?_|(apply hKK;clear hKK KK)));all_goals first|refine Hold.mk ?_|omega|with_reducible assumption|(simp only [InR] at *;omega)|skip))
        ((try refine CallT.toA ?_); refine callT_m (by first | exact .inl ⟨rfl, rfl⟩ | exact .inr rfl) (by simp [go_sem]) ?_; intro args ha; simp [go_sem] at ha; subst ha; refine ⟨_, (field_spec' _ _), ?_⟩; rintro _ rfl; simp [go_sem]; ((repeat' (first|(refine ag_x ?_;simp [go_sem])|intro _|refine And.intro ?_ ?_|(apply hKK;clear hKK KK)));all_goals first|refine Hold.mk ?_|omega|with_reducible assumption|(simp only [InR] at *;omega)|skip))
        ((try refine CallT.toA ?_); refine callT_m (by first | exact .inl ⟨rfl, rfl⟩ | exact .inr rfl) (by simp [go_sem]) ?_; intro args ha; simp [go_sem] at ha; subst ha; refine ⟨_, (itoa_spec _ hfc), ?_⟩; rintro _ rfl; simp [go_sem]; ((repeat' (first|(refine ag_x ?_;simp [go_sem])|intro _|refine And.intro ?_ ?_|(apply hKK;clear hKK KK)));all_goals first|refine Hold.mk ?_|omega|with_reducible assumption|(simp only [InR] at *;omega)|skip))
        (refine callA_l [900000, 900001] (by first | exact .inl ⟨rfl, rfl⟩ | exact .inr rfl) (by simp [go_sem]) ?_; intro args ha; simp [go_sem] at ha; subst ha; refine ⟨_, _, (ws_spec 900000 900001 gb gr (regL t ++ [10] ++ codeB (t.code.take k) ++ (nmAt i.op ++ fldB i ((flds i.op).take j))) _ (by decide) (by decide) (by decide) (by simp; omega)), (by simp [go_sem]), ?_⟩; rintro ps r hps ⟨gr3, rfl, rfl⟩; simp [go_sem]; ((repeat' (first|(refine ag_x ?_;simp [go_sem])|intro _|refine And.intro ?_ ?_|(apply hKK;clear hKK KK)));all_goals first|refine Hold.mk ?_|omega|with_reducible assumption|(simp only [InR] at *;omega)|skip))
        refine hK10 _ ?_; clear hK10
        (refine awp_r fun KK hKK => ?_; simp [go_sem]; ((repeat' (first|(refine ag_x ?_;simp [go_sem])|intro _|refine And.intro ?_ ?_|(apply hKK;clear hKK KK)));all_goals first|refine Hold.mk ?_|omega|with_reducible assumption|(simp only [InR] at *;omega)|skip))
        refine ⟨(j + 1, gr3), ?_, ?_, ?_⟩
        · (refine cov_of ?_ ?_ <;> simp [go_sem, hst])
        · exact h9
        · simp; omega
      · refine awp_exit ?_
        simp only [go_sem]
        refine hK7 _ ?_; clear hK7
        have hjl : j = (flds i.op).length := by omega
        subst hjl
        have hfb := fldB_len (i := i) (l := flds i.op) hfi
        have hst := codeB_step hi
        rw [List.take_length]
        (refine awp_r fun KK hKK => ?_; simp [go_sem]; ((repeat' (first|(refine ag_x ?_;simp [go_sem])|intro _|refine And.intro ?_ ?_|(apply hKK;clear hKK KK)));all_goals first|refine Hold.mk ?_|omega|with_reducible assumption|(simp only [InR] at *;omega)|skip))
        (refine callA_l [900000, 900001] (by first | exact .inl ⟨rfl, rfl⟩ | exact .inr rfl) (by simp [go_sem]) ?_; intro args ha; simp [go_sem] at ha; subst ha; refine ⟨_, _, (ws_spec 900000 900001 gb gr (regL t ++ [10] ++ codeB (t.code.take k) ++ (nmAt i.op ++ fldB i (flds i.op))) _ (by decide) (by decide) (by decide) (by simp; omega)), (by simp [go_sem]), ?_⟩; rintro ps r hps ⟨gr3, rfl, rfl⟩; simp [go_sem]; ((repeat' (first|(refine ag_x ?_;simp [go_sem])|intro _|refine And.intro ?_ ?_|(apply hKK;clear hKK KK)));all_goals first|refine Hold.mk ?_|omega|with_reducible assumption|(simp only [InR] at *;omega)|skip))
        refine hK6 _ ?_; clear hK6
        (refine awp_r fun KK hKK => ?_; simp [go_sem]; ((repeat' (first|(refine ag_x ?_;simp [go_sem])|intro _|refine And.intro ?_ ?_|(apply hKK;clear hKK KK)));all_goals first|refine Hold.mk ?_|omega|with_reducible assumption|(simp only [InR] at *;omega)|skip))
        refine ⟨(k + 1, gr3), ?_, ?_, ?_⟩
        · (refine cov_of ?_ ?_ <;> simp [go_sem, hst, insL])
        · exact h5
        · simp; omega
    · refine awp_exit ?_
      simp only [go_sem]
      refine hK3 _ ?_; clear hK3
      have hkl : k = t.code.length := by omega
      subst hkl
      rw [List.take_length]
      have hcl := codeB_len (regs := t.regs) (nex := t.exits.length) hs.2.1 (by omega) t.code (trOk_code h2)
      refine awp_seq_k fun K11 hK11 => ?_
      (refine awp_sr fun KK hKK => ?_; simp [go_sem]; ((repeat' (first|(refine ag_x ?_;simp [go_sem])|intro _|refine And.intro ?_ ?_|(apply hKK;clear hKK KK)));all_goals first|refine Hold.mk ?_|omega|with_reducible assumption|(simp only [InR] at *;omega)|skip))
      refine awp_block ?_
      refine awp_loop (σ := Nat × Nat) (fun x => ⟨[(4, .ptr 900000 gb 0), (55, .sl 2 (t.exits.map cExi)), (56, dI t.exits.length), (57, dI x.1)],
        [(900000, (gb, .bld 56 900001 x.2)), (900001, (x.2, .brow 5 (regL t ++ [10] ++ codeB t.code ++ exitsB (t.exits.take x.1))))]⟩) (fun x => x.1 ≤ t.exits.length) (fun x => t.exits.length - x.1) (0, gr) ?_ ?_ ?_
      · (refine cov_of ?_ ?_ <;> simp [go_sem, exitsB])
      · simp
      rintro ⟨k, gr⟩ hk
      simp only at hk
      (refine awp_sr fun KK hKK => ?_; simp [go_sem]; ((repeat' (first|(refine ag_x ?_;simp [go_sem])|intro _|refine And.intro ?_ ?_|(apply hKK;clear hKK KK)));all_goals first|refine Hold.mk ?_|omega|with_reducible assumption|(simp only [InR] at *;omega)|skip))
      refine awp_seq_k fun K12 hK12 => ?_
      (refine awp_if fun T F hT hF => ?_; simp [go_sem]; refine BR.intro (fun h13 => hT ?_) (fun h13 => hF ?_); all_goals clear hT hF T F; try simp at h13) 
      · refine awp_skip ?_
        refine hK12 _ ?_; clear hK12
        obtain ⟨x, hx⟩ : ∃ x, t.exits[k]? = some x := ⟨_, List.getElem?_eq_getElem h13⟩
        have hxo := trOk_exits h2 x (List.mem_of_getElem? hx)
        have hxb := hb x (List.mem_of_getElem? hx)
        obtain ⟨hsi, hsl⟩ := ex_inr hxo hs.2.1
        have hbl := itoa_len hxb
        have hel := exitsB_len (regs := t.regs) hs.2.1 (t.exits.take k) (fun x hx => ⟨trOk_exits h2 x (List.mem_of_mem_take hx), hb x (List.mem_of_mem_take hx)⟩)
        rw [List.length_take] at hel
        refine awp_seq_k fun K14 hK14 => ?_
        refine awp_block ?_
        (refine awp_sr fun KK hKK => ?_; simp [go_sem, hx]; ((repeat' (first|(refine ag_x ?_;simp [go_sem, hx])|intro _|refine And.intro ?_ ?_|(apply hKK;clear hKK KK)));all_goals first|refine Hold.mk ?_|omega|with_reducible assumption|(simp only [InR] at *;omega)|skip))
        rename_i g10
        refine awp_frzbox 10 rfl rfl ?_
        simp only [go_sem]
        (refine awp_sr fun KK hKK => ?_; simp [go_sem]; ((repeat' (first|(refine ag_x ?_;simp [go_sem])|intro _|refine And.intro ?_ ?_|(apply hKK;clear hKK KK)));all_goals first|refine Hold.mk ?_|omega|with_reducible assumption|(simp only [InR] at *;omega)|skip))
        ((try refine CallT.toA ?_); refine callT_m (by first | exact .inl ⟨rfl, rfl⟩ | exact .inr rfl) (by simp [go_sem]) ?_; intro args ha; simp [go_sem] at ha; subst ha; refine ⟨_, (itoa_spec _ hxb), ?_⟩; rintro _ rfl; simp [go_sem]; ((repeat' (first|(refine ag_x ?_;simp [go_sem])|intro _|refine And.intro ?_ ?_|(apply hKK;clear hKK KK)));all_goals first|refine Hold.mk ?_|omega|with_reducible assumption|(simp only [InR] at *;omega)|skip))
        (refine callA_l [900000, 900001] (by first | exact .inl ⟨rfl, rfl⟩ | exact .inr rfl) (by simp [go_sem]) ?_; intro args ha; simp [go_sem] at ha; subst ha; refine ⟨_, _, (ws_spec 900000 900001 gb gr (regL t ++ [10] ++ codeB t.code ++ exitsB (t.exits.take k)) _ (by decide) (by decide) (by decide) (by simp; omega)), (by simp [go_sem]), ?_⟩; rintro ps r hps ⟨gr3, rfl, rfl⟩; simp [go_sem]; ((repeat' (first|(refine ag_x ?_;simp [go_sem])|intro _|refine And.intro ?_ ?_|(apply hKK;clear hKK KK)));all_goals first|refine Hold.mk ?_|omega|with_reducible assumption|(simp only [InR] at *;omega)|skip))
        refine awp_seq_k fun K15 hK15 => ?_
        (refine awp_sr fun KK hKK => ?_; simp [go_sem]; ((repeat' (first|(refine ag_x ?_;simp [go_sem])|intro _|refine And.intro ?_ ?_|(apply hKK;clear hKK KK)));all_goals first|refine Hold.mk ?_|omega|with_reducible assumption|(simp only [InR] at *;omega)|skip))
        refine awp_block ?_
        refine awp_loop (σ := Nat × Nat) (fun y => ⟨[(4, .ptr 900000 gb 0), (55, .sl 2 (t.exits.map cExi)), (56, dI t.exits.length), (57, dI k), (67, dIs x.slots), (68, dI x.slots.length), (69, dI y.1)],
          [(900000, (gb, .bld 56 900001 y.2)), (900001, (y.2, .brow 5 (regL t ++ [10] ++ codeB t.code ++ exitsB (t.exits.take k) ++ ([101, 120, 105, 116, 32] ++ Lib.itoa x.back ++ slB (x.slots.take y.1)))))]⟩) (fun y => y.1 ≤ x.slots.length) (fun y => x.slots.length - y.1) (0, gr3) ?_ ?_ ?_
        · (refine cov_of ?_ ?_ <;> simp [go_sem, slB])
        · simp
        rintro ⟨j, gr⟩ hj
        simp only at hj
        (refine awp_sr fun KK hKK => ?_; simp [go_sem]; ((repeat' (first|(refine ag_x ?_;simp [go_sem])|intro _|refine And.intro ?_ ?_|(apply hKK;clear hKK KK)));all_goals first|refine Hold.mk ?_|omega|with_reducible assumption|(simp only [InR] at *;omega)|skip))
        refine awp_seq_k fun K16 hK16 => ?_
        (refine awp_if fun T F hT hF => ?_; simp [go_sem]; refine BR.intro (fun h17 => hT ?_) (fun h17 => hF ?_); all_goals clear hT hF T F; try simp at h17) 
        · refine awp_skip ?_
          refine hK16 _ ?_; clear hK16
          obtain ⟨c, hc⟩ : ∃ y, x.slots[j]? = some y := ⟨_, List.getElem?_eq_getElem h17⟩
          have hfc := hsi c (List.mem_of_getElem? hc)
          have hic := itoa_len hfc
          have hfb := slB_len (x.slots.take j) (fun c hc => hsi c (List.mem_of_mem_take hc))
          rw [List.length_take] at hfb
          have hst := slB_step hc
          refine awp_seq_k fun K18 hK18 => ?_
          refine awp_block ?_
          (refine awp_sr fun KK hKK => ?_; simp [go_sem, hc]; ((repeat' (first|(refine ag_x ?_;simp [go_sem, hc])|intro _|refine And.intro ?_ ?_|(apply hKK;clear hKK KK)));all_goals first|refine Hold.mk ?_|omega|with_reducible assumption|(simp only [InR] at *;omega)|skip))
          (refine awp_r fun KK hKK => ?_; simp [go_sem]; ((repeat' (first|(refine ag_x ?_;simp [go_sem])|intro _|refine And.intro ?_ ?_|(apply hKK;clear hKK KK)));all_goals first|refine Hold.mk ?_|omega|with_reducible assumption|(simp only [InR] at *;omega)|skip))
          ((try refine CallT.toA ?_); refine callT_m (by first | exact .inl ⟨rfl, rfl⟩ | exact .inr rfl) (by simp [go_sem]) ?_; intro args ha; simp [go_sem] at ha; subst ha; refine ⟨_, (itoa_spec _ hfc), ?_⟩; rintro _ rfl; simp [go_sem]; ((repeat' (first|(refine ag_x ?_;simp [go_sem])|intro _|refine And.intro ?_ ?_|(apply hKK;clear hKK KK)));all_goals first|refine Hold.mk ?_|omega|with_reducible assumption|(simp only [InR] at *;omega)|skip))
          (refine callA_l [900000, 900001] (by first | exact .inl ⟨rfl, rfl⟩ | exact .inr rfl) (by simp [go_sem]) ?_; intro args ha; simp [go_sem] at ha; subst ha; refine ⟨_, _, (ws_spec 900000 900001 gb gr (regL t ++ [10] ++ codeB t.code ++ exitsB (t.exits.take k) ++ ([101, 120, 105, 116, 32] ++ Lib.itoa x.back ++ slB (x.slots.take j))) _ (by decide) (by decide) (by decide) (by simp; omega)), (by simp [go_sem]), ?_⟩; rintro ps r hps ⟨gr4, rfl, rfl⟩; simp [go_sem]; ((repeat' (first|(refine ag_x ?_;simp [go_sem])|intro _|refine And.intro ?_ ?_|(apply hKK;clear hKK KK)));all_goals first|refine Hold.mk ?_|omega|with_reducible assumption|(simp only [InR] at *;omega)|skip))
          refine hK18 _ ?_; clear hK18
          (refine awp_r fun KK hKK => ?_; simp [go_sem]; ((repeat' (first|(refine ag_x ?_;simp [go_sem])|intro _|refine And.intro ?_ ?_|(apply hKK;clear hKK KK)));all_goals first|refine Hold.mk ?_|omega|with_reducible assumption|(simp only [InR] at *;omega)|skip))
          refine ⟨(j + 1, gr4), ?_, ?_, ?_⟩
          · (refine cov_of ?_ ?_ <;> simp [go_sem, hst])
          · exact h17
          · simp; omega
        · refine awp_exit ?_
          simp only [go_sem]
          refine hK15 _ ?_; clear hK15
          have hjl : j = x.slots.length := by omega
          subst hjl
          have hfb := slB_len x.slots hsi
          have hst := exitsB_step hx
          rw [List.take_length]
          (refine awp_r fun KK hKK => ?_; simp [go_sem]; ((repeat' (first|(refine ag_x ?_;simp [go_sem])|intro _|refine And.intro ?_ ?_|(apply hKK;clear hKK KK)));all_goals first|refine Hold.mk ?_|omega|with_reducible assumption|(simp only [InR] at *;omega)|skip))
          (refine callA_l [900000, 900001] (by first | exact .inl ⟨rfl, rfl⟩ | exact .inr rfl) (by simp [go_sem]) ?_; intro args ha; simp [go_sem] at ha; subst ha; refine ⟨_, _, (ws_spec 900000 900001 gb gr (regL t ++ [10] ++ codeB t.code ++ exitsB (t.exits.take k) ++ ([101, 120, 105, 116, 32] ++ Lib.itoa x.back ++ slB x.slots)) _ (by decide) (by decide) (by decide) (by simp; omega)), (by simp [go_sem]), ?_⟩; rintro ps r hps ⟨gr4, rfl, rfl⟩; simp [go_sem]; ((repeat' (first|(refine ag_x ?_;simp [go_sem])|intro _|refine And.intro ?_ ?_|(apply hKK;clear hKK KK)));all_goals first|refine Hold.mk ?_|omega|with_reducible assumption|(simp only [InR] at *;omega)|skip))
          refine hK14 _ ?_; clear hK14
          (refine awp_r fun KK hKK => ?_; simp [go_sem]; ((repeat' (first|(refine ag_x ?_;simp [go_sem])|intro _|refine And.intro ?_ ?_|(apply hKK;clear hKK KK)));all_goals first|refine Hold.mk ?_|omega|with_reducible assumption|(simp only [InR] at *;omega)|skip))
          refine ⟨(k + 1, gr4), ?_, ?_, ?_⟩
          · (refine cov_of ?_ ?_ <;> simp [go_sem, hst, exiL])
          · exact h13
          · simp; omega
      · refine awp_exit ?_
        simp only [go_sem]
        refine hK11 _ ?_; clear hK11
        have hkl : k = t.exits.length := by omega
        subst hkl
        rw [List.take_length]
        have e : regL t ++ 10 :: (codeB t.code ++ exitsB t.exits) = textV t := by simp [textV]
        rw [e]
        have hne : textV t ≠ [] := by simp [textV]
        (refine awp_sr fun KK hKK => ?_; simp [go_sem]; ((repeat' (first|(refine ag_x ?_;simp [go_sem])|intro _|refine And.intro ?_ ?_|(apply hKK;clear hKK KK)));all_goals first|refine Hold.mk ?_|omega|with_reducible assumption|(simp only [InR] at *;omega)|skip))
        (refine callA_l [900000, 900001] (by first | exact .inl ⟨rfl, rfl⟩ | exact .inr rfl) (by simp [go_sem]) ?_; intro args ha; simp [go_sem] at ha; subst ha; refine ⟨_, _, (str_spec 900000 900001 gb gr _ (by decide) (by decide) (by decide) hne), (by simp [go_sem]), ?_⟩; rintro ps r hps ⟨gr4, rfl, rfl⟩; simp [go_sem]; ((repeat' (first|(refine ag_x ?_;simp [go_sem])|intro _|refine And.intro ?_ ?_|(apply hKK;clear hKK KK)));all_goals first|refine Hold.mk ?_|omega|with_reducible assumption|(simp only [InR] at *;omega)|skip))
        (refine awp_ret ?_; simp [go_sem, h2])
end Go.Proofs.YtmgbaegdkjcagaaDoor

set_option linter.unusedSimpArgs false
set_option linter.unusedVariables false
namespace Go.Proofs.YtmgbaegdkjcagaaDoor
open Go.Eng
set_option maxRecDepth 20000
attribute [local irreducible] AG CallA CallT AWp PCall ACall AgC

theorem flds_mem {op : Int} {c : UInt8} (h : c ∈ flds op) : c = 68 ∨ c = 65 ∨ c = 66 ∨ c = 78 ∨ c = 88 := by
  unfold flds at h
  repeat' split at h
  all_goals simp at h
  all_goals first | (rcases h with h | h | h | h <;> simp [h]) | (rcases h with h | h | h <;> simp [h]) | (rcases h with h | h <;> simp [h]) | simp [h]
set_option maxHeartbeats 8000000 in
theorem rtext_spec (t : Tr) (hb : bkOk t) : PCall Tryd.prog 8 [dTr t] fun r => r = .tup [dS (if trOk t then textV t else []), dI (if trOk t then 0 else 1)] := by 
  refine pcall_of Tryd.func8 rfl rfl Tryd.ntmps8 (rs := [.tmp 2, .tmp 3]) (tys := [9, 28]) rfl rfl (by simp) ?_
  (refine awp_sr fun KK hKK => ?_; simp [go_sem]; ((repeat' (first|(refine ag_x ?_;simp [go_sem])|intro _|refine And.intro ?_ ?_|(apply hKK;clear hKK KK)));all_goals first|refine Hold.mk ?_|omega|with_reducible assumption|(simp only [InR] at *;omega)|skip))
  rename_i g1
  refine awp_frzbox 1 rfl rfl ?_
  simp only [go_sem]
  refine awp_seq_k fun K1 hK1 => ?_
  (refine awp_sr fun KK hKK => ?_; simp [go_sem]; ((repeat' (first|(refine ag_x ?_;simp [go_sem])|intro _|refine And.intro ?_ ?_|(apply hKK;clear hKK KK)));all_goals first|refine Hold.mk ?_|omega|with_reducible assumption|(simp only [InR] at *;omega)|skip))
  ((try refine CallT.toA ?_); refine callT_m (by first | exact .inl ⟨rfl, rfl⟩ | exact .inr rfl) (by simp [go_sem]) ?_; intro args ha; simp [go_sem] at ha; subst ha; refine ⟨_, (rvalid_spec _), ?_⟩; rintro _ rfl; simp [go_sem]; ((repeat' (first|(refine ag_x ?_;simp [go_sem])|intro _|refine And.intro ?_ ?_|(apply hKK;clear hKK KK)));all_goals first|refine Hold.mk ?_|omega|with_reducible assumption|(simp only [InR] at *;omega)|skip))
  (refine awp_if fun T F hT hF => ?_; simp [go_sem]; refine BR.intro (fun h2 => hT ?_) (fun h2 => hF ?_); all_goals clear hT hF T F; try simp at h2) 
  · (refine awp_sr fun KK hKK => ?_; simp [go_sem]; ((repeat' (first|(refine ag_x ?_;simp [go_sem])|intro _|refine And.intro ?_ ?_|(apply hKK;clear hKK KK)));all_goals first|refine Hold.mk ?_|omega|with_reducible assumption|(simp only [InR] at *;omega)|skip))
    (refine awp_ret ?_; simp [go_sem, h2])
  · refine awp_skip ?_
    refine hK1 _ ?_; clear hK1
    have hs := trOk_sizes h2
    have hreg : InR t.regs := by simp [InR]; omega
    have hrl := regL_len h2
    have hil := itoa_len hreg
    (refine awp_sr fun KK hKK => ?_; simp [go_sem]; ((repeat' (first|(refine ag_x ?_;simp [go_sem])|intro _|refine And.intro ?_ ?_|(apply hKK;clear hKK KK)));all_goals first|refine Hold.mk ?_|omega|with_reducible assumption|(simp only [InR] at *;omega)|skip))
    ((try refine CallT.toA ?_); refine callT_m (by first | exact .inl ⟨rfl, rfl⟩ | exact .inr rfl) (by simp [go_sem]) ?_; intro args ha; simp [go_sem] at ha; subst ha; refine ⟨_, (itoa_spec _ hreg), ?_⟩; rintro _ rfl; simp [go_sem]; ((repeat' (first|(refine ag_x ?_;simp [go_sem])|intro _|refine And.intro ?_ ?_|(apply hKK;clear hKK KK)));all_goals first|refine Hold.mk ?_|omega|with_reducible assumption|(simp only [InR] at *;omega)|skip))
    refine awp_seq_k fun K3 hK3 => ?_
    (refine awp_sr fun KK hKK => ?_; simp [go_sem]; ((repeat' (first|(refine ag_x ?_;simp [go_sem])|intro _|refine And.intro ?_ ?_|(apply hKK;clear hKK KK)));all_goals first|refine Hold.mk ?_|omega|with_reducible assumption|(simp only [InR] at *;omega)|skip))
    refine awp_block ?_
    refine awp_loop (σ := Nat) (fun k => ⟨[(1, .rd [dI t.regs, .sl 6 (t.code.map cIns), .sl 2 (t.exits.map cExi)]), (4, dS (regL t ++ [10] ++ codeB (t.code.take k))), (5, dI k)], []⟩) (fun k => k ≤ t.code.length) (fun k => t.code.length - k) 0 ?_ ?_ ?_
    · (refine cov_of ?_ ?_ <;> simp [go_sem, codeB, regL])
    · simp
    intro k hk
    refine awp_seq_k fun K4 hK4 => ?_
    (refine awp_sr fun KK hKK => ?_; simp [go_sem]; ((repeat' (first|(refine ag_x ?_;simp [go_sem])|intro _|refine And.intro ?_ ?_|(apply hKK;clear hKK KK)));all_goals first|refine Hold.mk ?_|omega|with_reducible assumption|(simp only [InR] at *;omega)|skip))
    (refine awp_if fun T F hT hF => ?_; simp [go_sem]; refine BR.intro (fun h5 => hT ?_) (fun h5 => hF ?_); all_goals clear hT hF T F; try simp at h5) 
    · refine awp_skip ?_
      refine hK4 _ ?_; clear hK4
      obtain ⟨i, hi⟩ : ∃ x, t.code[k]? = some x := ⟨_, List.getElem?_eq_getElem h5⟩
      have hins := trOk_code h2 i (List.mem_of_getElem? hi)
      obtain ⟨ho0, ho1⟩ := insOk_op hins
      have hcl := codeB_len (regs := t.regs) (nex := t.exits.length) hs.2.1 (by omega) (t.code.take k) (fun j hj => trOk_code h2 j (List.mem_of_mem_take hj))
      have hnl := nm_len i.op
      have hfi := ins_inr hins hs.2.1 (by omega)
      have hfl := flds_len i.op
      rw [List.length_take] at hcl
      refine awp_seq_k fun K6 hK6 => ?_
      refine awp_block ?_
      (refine awp_sr fun KK hKK => ?_; simp [go_sem, hi]; ((repeat' (first|(refine ag_x ?_;simp [go_sem, hi])|intro _|refine And.intro ?_ ?_|(apply hKK;clear hKK KK)));all_goals first|refine Hold.mk ?_|omega|with_reducible assumption|(simp only [InR] at *;omega)|skip))
      rename_i g6
      refine awp_frzbox 6 rfl rfl ?_
      simp only [go_sem]
      ((refine awp_dr (.qs [0, 2, 3] (.kp 1 (.qs [4] (.one 5 (.qs [6, 7] (.nil)))))) (by kernel_rfl) ?_ ?_ ?_ ?_); (kernel_rfl); (exact (by decide +kernel)); (kernel_rfl); intro KK hKK; ((repeat' (first|(refine ag_x ?_;simp [go_sem, nm_at ho0 ho1])|refine adr_nil ?_|refine adr_two ?_ ?_|refine adr_kp2 ?_ ?_|((first|refine adr_qs fun KK hKK=>?_|refine adr_y fun KK hKK=>?_);simp [go_sem, nm_at ho0 ho1])|intro _|refine And.intro ?_ ?_|(apply hKK;clear hKK KK)));all_goals first|refine Hold.mk ?_|omega|with_reducible assumption|(simp only [InR] at *;omega)|skip))
      ((try refine CallT.toA ?_); refine callT_m (by first | exact .inl ⟨rfl, rfl⟩ | exact .inr rfl) (by simp [go_sem]) ?_; intro args ha; simp [go_sem] at ha; subst ha; refine ⟨_, rnames_spec, ?_⟩; rintro _ rfl; simp [go_sem, nm_at ho0 ho1]; ((repeat' (first|(refine ag_x ?_;simp [go_sem, nm_at ho0 ho1])|refine adr_nil ?_|refine adr_two ?_ ?_|refine adr_kp2 ?_ ?_|((first|refine adr_qs fun KK hKK=>?_|refine adr_y fun KK hKK=>?_);simp [go_sem, nm_at ho0 ho1])|intro _|refine And.intro ?_ ?_|(apply hKK;clear hKK KK)));all_goals first|refine Hold.mk ?_|omega|with_reducible assumption|(simp only [InR] at *;omega)|skip))
      (refine awp_sr fun KK hKK => ?_; simp [go_sem]; ((repeat' (first|(refine ag_x ?_;simp [go_sem])|intro _|refine And.intro ?_ ?_|(apply hKK;clear hKK KK)));all_goals first|refine Hold.mk ?_|omega|with_reducible assumption|(simp only [InR] at *;omega)|skip))
      ((try refine CallT.toA ?_); refine callT_m (by first | exact .inl ⟨rfl, rfl⟩ | exact .inr rfl) (by simp [go_sem]) ?_; intro args ha; simp [go_sem] at ha; subst ha; refine ⟨_, (rfields_spec _ ho0 ho1), ?_⟩; rintro _ rfl; simp [go_sem]; ((repeat' (first|(refine ag_x ?_;simp [go_sem])|intro _|refine And.intro ?_ ?_|(apply hKK;clear hKK KK)));all_goals first|refine Hold.mk ?_|omega|with_reducible assumption|(simp only [InR] at *;omega)|skip))
      refine awp_seq_k fun K7 hK7 => ?_
      (refine awp_sr fun KK hKK => ?_; simp [go_sem]; ((repeat' (first|(refine ag_x ?_;simp [go_sem])|intro _|refine And.intro ?_ ?_|(apply hKK;clear hKK KK)));all_goals first|refine Hold.mk ?_|omega|with_reducible assumption|(simp only [InR] at *;omega)|skip))
      refine awp_block ?_
      refine awp_loop (σ := Nat) (fun j => ⟨[(1, .rd [dI t.regs, .sl 6 (t.code.map cIns), .sl 2 (t.exits.map cExi)]), (4, dS (regL t ++ [10] ++ codeB (t.code.take k) ++ (nmAt i.op ++ fldB i ((flds i.op).take j)))), (5, dI k), (6, .rd (cIns i)), (7, dS (flds i.op)), (8, dI j)], []⟩) (fun j => j ≤ (flds i.op).length) (fun j => (flds i.op).length - j) 0 ?_ ?_ ?_
      · (refine cov_of ?_ ?_ <;> simp [go_sem, fldB])
      · simp
      intro j hj
      refine awp_seq_k fun K8 hK8 => ?_
      (refine awp_sr fun KK hKK => ?_; simp [go_sem]; ((repeat' (first|(refine ag_x ?_;simp [go_sem])|intro _|refine And.intro ?_ ?_|(apply hKK;clear hKK KK)));all_goals first|refine Hold.mk ?_|omega|with_reducible assumption|(simp only [InR] at *;omega)|skip))
      (refine awp_if fun T F hT hF => ?_; simp [go_sem]; refine BR.intro (fun h9 => hT ?_) (fun h9 => hF ?_); all_goals clear hT hF T F; try simp at h9) 
      · refine awp_skip ?_
        refine hK8 _ ?_; clear hK8
        obtain ⟨c, hc⟩ : ∃ x, (flds i.op)[j]? = some x := ⟨_, List.getElem?_eq_getElem h9⟩
        have hfc := hfi c (List.mem_of_getElem? hc)
        have hic := itoa_len hfc
        have hcm := flds_mem (List.mem_of_getElem? hc)
        have hfb := fldB_len (i := i) (l := (flds i.op).take j) (fun c hc => hfi c (List.mem_of_mem_take hc))
        rw [List.length_take] at hfb
        have hst := fldB_step (i := i) hc
        refine awp_seq_k fun K10 hK10 => ?_
        refine awp_block ?_
        (refine awp_sr fun KK hKK => ?_; simp [go_sem]; ((repeat' (first|(refine ag_x ?_;simp [go_sem])|intro _|refine And.intro ?_ ?_|(apply hKK;clear hKK KK)));all_goals first|refine Hold.mk ?_|omega|with_reducible assumption|(simp only [InR] at *;omega)|skip))
        refine awp_seq_k fun K11 hK11 => ?_
        have tl11 : ∀ S', Cov S' ⟨[(1, .rd [dI t.regs, .sl 6 (t.code.map cIns), .sl 2 (t.exits.map cExi)]), (4, dS (regL t ++ [10] ++ codeB (t.code.take k) ++ (nmAt i.op ++ fldB i ((flds i.op).take j)))), (5, dI k), (6, .rd (cIns i)), (7, dS (flds i.op)), (8, dI j), (9, dI (fVal i c.toNat))], []⟩ → K11 S' := fun S' hS => by
          refine hK11 _ ?_; clear hK11
          refine awp_cov hS ?_; clear hS
          (refine awp_r fun KK hKK => ?_; simp [go_sem]; ((repeat' (first|(refine ag_x ?_;simp [go_sem])|intro _|refine And.intro ?_ ?_|(apply hKK;clear hKK KK)));all_goals first|refine Hold.mk ?_|omega|with_reducible assumption|(simp only [InR] at *;omega)|skip))
          ((try refine CallT.toA ?_); refine callT_m (by first | exact .inl ⟨rfl, rfl⟩ | exact .inr rfl) (by simp [go_sem]) ?_; intro args ha; simp [go_sem] at ha; subst ha; refine ⟨_, (itoa_spec _ hfc), ?_⟩; rintro _ rfl; simp [go_sem]; ((repeat' (first|(refine ag_x ?_;simp [go_sem])|intro _|refine And.intro ?_ ?_|(apply hKK;clear hKK KK)));all_goals first|refine Hold.mk ?_|omega|with_reducible assumption|(simp only [InR] at *;omega)|skip))
          refine hK10 _ ?_; clear hK10
          (refine awp_r fun KK hKK => ?_; simp [go_sem]; ((repeat' (first|(refine ag_x ?_;simp [go_sem])|intro _|refine And.intro ?_ ?_|(apply hKK;clear hKK KK)));all_goals first|refine Hold.mk ?_|omega|with_reducible assumption|(simp only [InR] at *;omega)|skip))
          refine ⟨j + 1, ?_, ?_, ?_⟩
          · (refine cov_of ?_ ?_ <;> simp [go_sem, hst])
          · exact h9
          · omega
        clear hK11
        (refine awp_sr fun KK hKK => ?_; simp [go_sem, hc]; ((repeat' (first|(refine ag_x ?_;simp [go_sem, hc])|intro _|refine And.intro ?_ ?_|(apply hKK;clear hKK KK)));all_goals first|refine Hold.mk ?_|omega|with_reducible assumption|(simp only [InR] at *;omega)|skip))
        refine awp_block ?_
        (refine awp_sr fun KK hKK => ?_; simp [go_sem]; ((repeat' (first|(refine ag_x ?_;simp [go_sem])|intro _|refine And.intro ?_ ?_|(apply hKK;clear hKK KK)));all_goals first|refine Hold.mk ?_|omega|with_reducible assumption|(simp only [InR] at *;omega)|skip))
        (refine awp_if fun T F hT hF => ?_; simp [go_sem]; refine BR.intro (fun h12 => hT ?_) (fun h12 => hF ?_); all_goals clear hT hF T F; try simp at h12) 
        · (refine awp_r fun KK hKK => ?_; simp [go_sem]; ((repeat' (first|(refine ag_x ?_;simp [go_sem])|intro _|refine And.intro ?_ ?_|(apply hKK;clear hKK KK)));all_goals first|refine Hold.mk ?_|omega|with_reducible assumption|(simp only [InR] at *;omega)|skip))
          refine tl11 _ ?_
          (refine cov_of ?_ ?_ <;> simp [go_sem, fVal, h12])
        · (refine awp_sr fun KK hKK => ?_; simp [go_sem]; ((repeat' (first|(refine ag_x ?_;simp [go_sem])|intro _|refine And.intro ?_ ?_|(apply hKK;clear hKK KK)));all_goals first|refine Hold.mk ?_|omega|with_reducible assumption|(simp only [InR] at *;omega)|skip))
          (refine awp_if fun T F hT hF => ?_; simp [go_sem]; refine BR.intro (fun h13 => hT ?_) (fun h13 => hF ?_); all_goals clear hT hF T F; try simp at h13) 
          · (refine awp_r fun KK hKK => ?_; simp [go_sem]; ((repeat' (first|(refine ag_x ?_;simp [go_sem])|intro _|refine And.intro ?_ ?_|(apply hKK;clear hKK KK)));all_goals first|refine Hold.mk ?_|omega|with_reducible assumption|(simp only [InR] at *;omega)|skip))
            refine tl11 _ ?_
            (refine cov_of ?_ ?_ <;> simp [go_sem, fVal, h13])
          · (refine awp_sr fun KK hKK => ?_; simp [go_sem]; ((repeat' (first|(refine ag_x ?_;simp [go_sem])|intro _|refine And.intro ?_ ?_|(apply hKK;clear hKK KK)));all_goals first|refine Hold.mk ?_|omega|with_reducible assumption|(simp only [InR] at *;omega)|skip))
            (refine awp_if fun T F hT hF => ?_; simp [go_sem]; refine BR.intro (fun h14 => hT ?_) (fun h14 => hF ?_); all_goals clear hT hF T F; try simp at h14) 
            · (refine awp_r fun KK hKK => ?_; simp [go_sem]; ((repeat' (first|(refine ag_x ?_;simp [go_sem])|intro _|refine And.intro ?_ ?_|(apply hKK;clear hKK KK)));all_goals first|refine Hold.mk ?_|omega|with_reducible assumption|(simp only [InR] at *;omega)|skip))
              refine tl11 _ ?_
              (refine cov_of ?_ ?_ <;> simp [go_sem, fVal, h14])
            · (refine awp_sr fun KK hKK => ?_; simp [go_sem]; ((repeat' (first|(refine ag_x ?_;simp [go_sem])|intro _|refine And.intro ?_ ?_|(apply hKK;clear hKK KK)));all_goals first|refine Hold.mk ?_|omega|with_reducible assumption|(simp only [InR] at *;omega)|skip))
              (refine awp_if fun T F hT hF => ?_; simp [go_sem]; refine BR.intro (fun h15 => hT ?_) (fun h15 => hF ?_); all_goals clear hT hF T F; try simp at h15) 
              · (refine awp_r fun KK hKK => ?_; simp [go_sem]; ((repeat' (first|(refine ag_x ?_;simp [go_sem])|intro _|refine And.intro ?_ ?_|(apply hKK;clear hKK KK)));all_goals first|refine Hold.mk ?_|omega|with_reducible assumption|(simp only [InR] at *;omega)|skip))
                refine tl11 _ ?_
                (refine cov_of ?_ ?_ <;> simp [go_sem, fVal, h15])
              · refine awp_skip ?_
                refine tl11 _ ?_
                have h68 : c = 68 := by
                  rcases hcm with h | h | h | h | h
                  · exact h
                  all_goals subst h; revert h12 h13 h14 h15; decide
                subst h68
                (refine cov_of ?_ ?_ <;> simp [go_sem, fVal])
      · refine awp_exit ?_
        simp only [go_sem]
        refine hK7 _ ?_; clear hK7
        have hjl : j = (flds i.op).length := by omega
        subst hjl
        have hfb := fldB_len (i := i) (l := flds i.op) hfi
        have hst := codeB_step hi
        rw [List.take_length]
        (refine awp_r fun KK hKK => ?_; simp [go_sem]; ((repeat' (first|(refine ag_x ?_;simp [go_sem])|intro _|refine And.intro ?_ ?_|(apply hKK;clear hKK KK)));all_goals first|refine Hold.mk ?_|omega|with_reducible assumption|(simp only [InR] at *;omega)|skip))
        refine hK6 _ ?_; clear hK6
        (refine awp_r fun KK hKK => ?_; simp [go_sem]; ((repeat' (first|(refine ag_x ?_;simp [go_sem])|intro _|refine And.intro ?_ ?_|(apply hKK;clear hKK KK)));all_goals first|refine Hold.mk ?_|omega|with_reducible assumption|(simp only [InR] at *;omega)|skip))
        refine ⟨k + 1, ?_, ?_, ?_⟩
        · (refine cov_of ?_ ?_ <;> simp [go_sem, hst, insL])
        · exact h5
        · omega
    · refine awp_exit ?_
      simp only [go_sem]
      refine hK3 _ ?_; clear hK3
      have hkl : k = t.code.length := by omega
      subst hkl
      rw [List.take_length]
      have hcl := codeB_len (regs := t.regs) (nex := t.exits.length) hs.2.1 (by omega) t.code (trOk_code h2)
      refine awp_seq_k fun K16 hK16 => ?_
      (refine awp_sr fun KK hKK => ?_; simp [go_sem]; ((repeat' (first|(refine ag_x ?_;simp [go_sem])|intro _|refine And.intro ?_ ?_|(apply hKK;clear hKK KK)));all_goals first|refine Hold.mk ?_|omega|with_reducible assumption|(simp only [InR] at *;omega)|skip))
      refine awp_block ?_
      refine awp_loop (σ := Nat) (fun k => ⟨[(1, .rd [dI t.regs, .sl 6 (t.code.map cIns), .sl 2 (t.exits.map cExi)]), (4, dS (regL t ++ [10] ++ codeB t.code ++ exitsB (t.exits.take k))), (10, dI k)], []⟩) (fun k => k ≤ t.exits.length) (fun k => t.exits.length - k) 0 ?_ ?_ ?_
      · (refine cov_of ?_ ?_ <;> simp [go_sem, exitsB])
      · simp
      intro k hk
      refine awp_seq_k fun K17 hK17 => ?_
      (refine awp_sr fun KK hKK => ?_; simp [go_sem]; ((repeat' (first|(refine ag_x ?_;simp [go_sem])|intro _|refine And.intro ?_ ?_|(apply hKK;clear hKK KK)));all_goals first|refine Hold.mk ?_|omega|with_reducible assumption|(simp only [InR] at *;omega)|skip))
      (refine awp_if fun T F hT hF => ?_; simp [go_sem]; refine BR.intro (fun h18 => hT ?_) (fun h18 => hF ?_); all_goals clear hT hF T F; try simp at h18) 
      · refine awp_skip ?_
        refine hK17 _ ?_; clear hK17
        obtain ⟨x, hx⟩ : ∃ x, t.exits[k]? = some x := ⟨_, List.getElem?_eq_getElem h18⟩
        have hxo := trOk_exits h2 x (List.mem_of_getElem? hx)
        have hxb := hb x (List.mem_of_getElem? hx)
        obtain ⟨hsi, hsl⟩ := ex_inr hxo hs.2.1
        have hbl := itoa_len hxb
        have hel := exitsB_len (regs := t.regs) hs.2.1 (t.exits.take k) (fun x hx => ⟨trOk_exits h2 x (List.mem_of_mem_take hx), hb x (List.mem_of_mem_take hx)⟩)
        rw [List.length_take] at hel
        refine awp_seq_k fun K19 hK19 => ?_
        refine awp_block ?_
        (refine awp_sr fun KK hKK => ?_; simp [go_sem, hx]; ((repeat' (first|(refine ag_x ?_;simp [go_sem, hx])|intro _|refine And.intro ?_ ?_|(apply hKK;clear hKK KK)));all_goals first|refine Hold.mk ?_|omega|with_reducible assumption|(simp only [InR] at *;omega)|skip))
        ((try refine CallT.toA ?_); refine callT_m (by first | exact .inl ⟨rfl, rfl⟩ | exact .inr rfl) (by simp [go_sem]) ?_; intro args ha; simp [go_sem] at ha; subst ha; refine ⟨_, (itoa_spec _ hxb), ?_⟩; rintro _ rfl; simp [go_sem]; ((repeat' (first|(refine ag_x ?_;simp [go_sem])|intro _|refine And.intro ?_ ?_|(apply hKK;clear hKK KK)));all_goals first|refine Hold.mk ?_|omega|with_reducible assumption|(simp only [InR] at *;omega)|skip))
        refine awp_seq_k fun K20 hK20 => ?_
        (refine awp_sr fun KK hKK => ?_; simp [go_sem]; ((repeat' (first|(refine ag_x ?_;simp [go_sem])|intro _|refine And.intro ?_ ?_|(apply hKK;clear hKK KK)));all_goals first|refine Hold.mk ?_|omega|with_reducible assumption|(simp only [InR] at *;omega)|skip))
        refine awp_block ?_
        refine awp_loop (σ := Nat) (fun j => ⟨[(1, .rd [dI t.regs, .sl 6 (t.code.map cIns), .sl 2 (t.exits.map cExi)]), (4, dS (regL t ++ [10] ++ codeB t.code ++ exitsB (t.exits.take k) ++ ([101, 120, 105, 116, 32] ++ Lib.itoa x.back ++ slB (x.slots.take j)))), (10, dI k), (11, dI j)], []⟩) (fun j => j ≤ x.slots.length) (fun j => x.slots.length - j) 0 ?_ ?_ ?_
        · (refine cov_of ?_ ?_ <;> simp [go_sem, slB])
        · simp
        intro j hj
        refine awp_seq_k fun K21 hK21 => ?_
        (refine awp_sr fun KK hKK => ?_; simp [go_sem, hx]; ((repeat' (first|(refine ag_x ?_;simp [go_sem, hx])|intro _|refine And.intro ?_ ?_|(apply hKK;clear hKK KK)));all_goals first|refine Hold.mk ?_|omega|with_reducible assumption|(simp only [InR] at *;omega)|skip))
        (refine awp_if fun T F hT hF => ?_; simp [go_sem]; refine BR.intro (fun h22 => hT ?_) (fun h22 => hF ?_); all_goals clear hT hF T F; try simp at h22) 
        · refine awp_skip ?_
          refine hK21 _ ?_; clear hK21
          obtain ⟨c, hc⟩ : ∃ y, x.slots[j]? = some y := ⟨_, List.getElem?_eq_getElem h22⟩
          have hfc := hsi c (List.mem_of_getElem? hc)
          have hic := itoa_len hfc
          have hfb := slB_len (x.slots.take j) (fun c hc => hsi c (List.mem_of_mem_take hc))
          rw [List.length_take] at hfb
          have hst := slB_step hc
          refine awp_seq_k fun K23 hK23 => ?_
          refine awp_block ?_
          (refine awp_r fun KK hKK => ?_; simp [go_sem, hx, hc]; ((repeat' (first|(refine ag_x ?_;simp [go_sem, hx, hc])|intro _|refine And.intro ?_ ?_|(apply hKK;clear hKK KK)));all_goals first|refine Hold.mk ?_|omega|with_reducible assumption|(simp only [InR] at *;omega)|skip))
          ((try refine CallT.toA ?_); refine callT_m (by first | exact .inl ⟨rfl, rfl⟩ | exact .inr rfl) (by simp [go_sem]) ?_; intro args ha; simp [go_sem] at ha; subst ha; refine ⟨_, (itoa_spec _ hfc), ?_⟩; rintro _ rfl; simp [go_sem]; ((repeat' (first|(refine ag_x ?_;simp [go_sem])|intro _|refine And.intro ?_ ?_|(apply hKK;clear hKK KK)));all_goals first|refine Hold.mk ?_|omega|with_reducible assumption|(simp only [InR] at *;omega)|skip))
          refine hK23 _ ?_; clear hK23
          (refine awp_r fun KK hKK => ?_; simp [go_sem]; ((repeat' (first|(refine ag_x ?_;simp [go_sem])|intro _|refine And.intro ?_ ?_|(apply hKK;clear hKK KK)));all_goals first|refine Hold.mk ?_|omega|with_reducible assumption|(simp only [InR] at *;omega)|skip))
          refine ⟨j + 1, ?_, ?_, ?_⟩
          · (refine cov_of ?_ ?_ <;> simp [go_sem, hst])
          · exact h22
          · omega
        · refine awp_exit ?_
          simp only [go_sem]
          refine hK20 _ ?_; clear hK20
          have hjl : j = x.slots.length := by omega
          subst hjl
          have hfb := slB_len x.slots hsi
          have hst := exitsB_step hx
          rw [List.take_length]
          (refine awp_r fun KK hKK => ?_; simp [go_sem]; ((repeat' (first|(refine ag_x ?_;simp [go_sem])|intro _|refine And.intro ?_ ?_|(apply hKK;clear hKK KK)));all_goals first|refine Hold.mk ?_|omega|with_reducible assumption|(simp only [InR] at *;omega)|skip))
          refine hK19 _ ?_; clear hK19
          (refine awp_r fun KK hKK => ?_; simp [go_sem]; ((repeat' (first|(refine ag_x ?_;simp [go_sem])|intro _|refine And.intro ?_ ?_|(apply hKK;clear hKK KK)));all_goals first|refine Hold.mk ?_|omega|with_reducible assumption|(simp only [InR] at *;omega)|skip))
          refine ⟨k + 1, ?_, ?_, ?_⟩
          · (refine cov_of ?_ ?_ <;> simp [go_sem, hst, exiL])
          · exact h18
          · omega
      · refine awp_exit ?_
        simp only [go_sem]
        refine hK16 _ ?_; clear hK16
        have hkl : k = t.exits.length := by omega
        subst hkl
        rw [List.take_length]
        have e : regL t ++ 10 :: (codeB t.code ++ exitsB t.exits) = textV t := by simp [textV]
        (refine awp_sr fun KK hKK => ?_; simp [go_sem]; ((repeat' (first|(refine ag_x ?_;simp [go_sem])|intro _|refine And.intro ?_ ?_|(apply hKK;clear hKK KK)));all_goals first|refine Hold.mk ?_|omega|with_reducible assumption|(simp only [InR] at *;omega)|skip))
        (refine awp_ret ?_; simp [go_sem, h2, e])
end Go.Proofs.YtmgbaegdkjcagaaDoor
