/- Part of a proof: see the last text. -/
import Derived.Test.YtmgbaegdkjcagaaWE
set_option linter.unusedVariables false
set_option linter.unusedSimpArgs false
namespace Go.Proofs.Ytmgbaegdkjcagaa
open Go.Eng
set_option maxRecDepth 20000
attribute [local irreducible] AG CallA CallT AWp PCall ACall AgC

def isI (c : Int) (x : Int) : Bool := decide (c = x)
theorem indexI_spec (l : List Int) (c : Int) (hl : l.length ≤ 2 ^ 40) : PCall Try.prog 73 [dIs l, dI c] fun r => r = dI (fidx (isI c) l) := by 
  refine pcall_of Try.func73 rfl rfl Try.ntmps73 (rs := [.tmp 4]) (tys := [3]) rfl rfl (by simp) ?_
  (refine awp_sr fun KK hKK => ?_; simp [go_sem]; ((repeat' (first|(refine ag_x ?_;simp [go_sem])|intro _|refine And.intro ?_ ?_|(apply hKK;clear hKK KK)));all_goals first|refine Hold.mk ?_|omega|with_reducible assumption|(simp only [InR] at *;omega)|skip))
  refine awp_seq_k fun K1 hK1 => ?_
  (refine awp_sr fun KK hKK => ?_; simp [go_sem]; ((repeat' (first|(refine ag_x ?_;simp [go_sem])|intro _|refine And.intro ?_ ?_|(apply hKK;clear hKK KK)));all_goals first|refine Hold.mk ?_|omega|with_reducible assumption|(simp only [InR] at *;omega)|skip))
  refine awp_block ?_
  refine awp_loop (σ := Nat) (fun i => ⟨[(0, dIs l), (1, dI c), (7, dI l.length), (8, dI i)], []⟩) (fun i => i ≤ l.length ∧ (l.take i).any (isI c) = false) (fun i => l.length - i) 0 ?_ ?_ ?_
  · (refine cov_of ?_ ?_ <;> simp [go_sem])
  · simp
  rintro i ⟨hi, hany⟩
  (refine awp_sr fun KK hKK => ?_; simp [go_sem]; ((repeat' (first|(refine ag_x ?_;simp [go_sem])|intro _|refine And.intro ?_ ?_|(apply hKK;clear hKK KK)));all_goals first|refine Hold.mk ?_|omega|with_reducible assumption|(simp only [InR] at *;omega)|skip))
  refine awp_seq_k fun K2 hK2 => ?_
  (refine awp_if fun T F hT hF => ?_; simp [go_sem]; refine BR.intro (fun h3 => hT ?_) (fun h3 => hF ?_); all_goals clear hT hF T F; try simp at h3) 
  · refine awp_skip ?_
    refine hK2 _ ?_; clear hK2
    obtain ⟨x, hx⟩ : ∃ x, l[i]? = some x := ⟨_, List.getElem?_eq_getElem h3⟩
    refine awp_seq_k fun K4 hK4 => ?_
    refine awp_block ?_
    (refine awp_sr fun KK hKK => ?_; simp [go_sem]; ((repeat' (first|(refine ag_x ?_;simp [go_sem])|intro _|refine And.intro ?_ ?_|(apply hKK;clear hKK KK)));all_goals first|refine Hold.mk ?_|omega|with_reducible assumption|(simp only [InR] at *;omega)|skip))
    (refine awp_sr fun KK hKK => ?_; simp [go_sem, hx]; ((repeat' (first|(refine ag_x ?_;simp [go_sem, hx])|intro _|refine And.intro ?_ ?_|(apply hKK;clear hKK KK)));all_goals first|refine Hold.mk ?_|omega|with_reducible assumption|(simp only [InR] at *;omega)|skip))
    (refine awp_if fun T F hT hF => ?_; simp [go_sem]; refine BR.intro (fun h5 => hT ?_) (fun h5 => hF ?_); all_goals clear hT hF T F; try simp at h5)
    · (refine awp_sr fun KK hKK => ?_; simp [go_sem]; ((repeat' (first|(refine ag_x ?_;simp [go_sem])|intro _|refine And.intro ?_ ?_|(apply hKK;clear hKK KK)));all_goals first|refine Hold.mk ?_|omega|with_reducible assumption|(simp only [InR] at *;omega)|skip))
      (refine awp_ret ?_; simp [go_sem])
      rw [fidx_at hany hx (by simp [isI, h5])]
    · refine awp_skip ?_
      simp only [go_sem]
      refine hK4 _ ?_; clear hK4
      (refine awp_r fun KK hKK => ?_; simp [go_sem]; ((repeat' (first|(refine ag_x ?_;simp [go_sem])|intro _|refine And.intro ?_ ?_|(apply hKK;clear hKK KK)));all_goals first|refine Hold.mk ?_|omega|with_reducible assumption|(simp only [InR] at *;omega)|skip))
      refine ⟨i + 1, ?_, ⟨h3, ?_⟩, by omega⟩
      · (refine cov_of ?_ ?_ <;> simp [go_sem])
      · exact take_any hany hx (by simp [isI, h5])
  · refine awp_exit ?_
    simp only [go_sem]
    refine hK1 _ ?_; clear hK1
    (refine awp_sr fun KK hKK => ?_; simp [go_sem]; ((repeat' (first|(refine ag_x ?_;simp [go_sem])|intro _|refine And.intro ?_ ?_|(apply hKK;clear hKK KK)));all_goals first|refine Hold.mk ?_|omega|with_reducible assumption|(simp only [InR] at *;omega)|skip))
    (refine awp_ret ?_; simp [go_sem])
    have : i = l.length := by omega
    subst this
    rw [List.take_length] at hany
    rw [fidx_none hany]
theorem any_isI (l : List Int) (c : Int) : l.any (isI c) = l.contains c := by
  rw [Bool.eq_iff_iff]
  simp [isI]
theorem containsI_spec (l : List Int) (c : Int) (hl : l.length ≤ 2 ^ 40) : PCall Try.prog 53 [dIs l, dI c] fun r => r = dB (l.contains c) := by
  refine pcall_of Try.func53 rfl rfl Try.ntmps53 (rs := [.tmp 4]) (tys := [4]) rfl rfl (by simp) ?_
  (refine awp_sr fun KK hKK => ?_; simp [go_sem]; ((repeat' (first|(refine ag_x ?_;simp [go_sem])|intro _|refine And.intro ?_ ?_|(apply hKK;clear hKK KK)));all_goals first|refine Hold.mk ?_|omega|with_reducible assumption|(simp only [InR] at *;omega)|skip))
  (refine awp_sr fun KK hKK => ?_; simp [go_sem]; ((repeat' (first|(refine ag_x ?_;simp [go_sem])|intro _|refine And.intro ?_ ?_|(apply hKK;clear hKK KK)));all_goals first|refine Hold.mk ?_|omega|with_reducible assumption|(simp only [InR] at *;omega)|skip))
  ((try refine CallT.toA ?_); refine callT_m (by first | exact .inl ⟨rfl, rfl⟩ | exact .inr rfl) (by simp [go_sem]) ?_; intro args ha; simp [go_sem] at ha; subst ha; refine ⟨_, (indexI_spec _ _ hl), ?_⟩; rintro _ rfl; simp [go_sem]; ((repeat' (first|(refine ag_x ?_;simp [go_sem])|intro _|refine And.intro ?_ ?_|(apply hKK;clear hKK KK)));all_goals first|refine Hold.mk ?_|omega|with_reducible assumption|(simp only [InR] at *;omega)|skip))
  (refine awp_ret ?_; simp [go_sem, fidx_any, any_isI])
theorem writes_spec (op : Int) : PCall Try.prog 50 [dI op] fun r => r = dB (decide (op ≤ 8)) := by
  refine pcall_of Try.func50 rfl rfl Try.ntmps50 (rs := [.tmp 2]) (tys := [4]) rfl rfl (by simp) ?_
  (repeat' (first | ((first|refine awp_sr fun KK hKK => ?_|refine awp_r fun KK hKK => ?_);simp [go_sem];((repeat' (first|(refine ag_x ?_;simp [go_sem])|intro _|refine And.intro ?_ ?_|(apply hKK;clear hKK KK)));all_goals first|refine Hold.mk ?_|omega|with_reducible assumption|(simp only [InR] at *;omega)|skip)) | refine awp_block ?_ | ((refine awp_if fun T F hT hF => ?_); simp [go_sem, *]; (first | refine BR.intro (fun hb => hT ?_) (fun hb => hF ?_) | refine hT ?_ | refine hF ?_); all_goals ((try clear hT); (try clear hF); (try clear T F); (try simp at hb); (try (exfalso; omega)))) | refine awp_skip ?_ | (refine awp_exit ?_; simp only [go_sem]) | refine awp_seq ?_ | (refine awp_ret ?_; simp [go_sem])))

def slotsAt (t : Tr) (x : Int) : List Int := match t.exits[x.toNat]? with
  | some e => e.slots
  | none => []
/-- what a letter of an instruction reads -/
def readsC (t : Tr) (i : Ins) (exit : Bool) (c : UInt8) : List Int := if c = 65 then [i.a] else if c = 66 then [i.b] else if c = 88 ∧ exit = true then slotsAt t i.x else []
def readsV (t : Tr) (i : Ins) (exit : Bool) : List Int := (flds i.op).flatMap (readsC t i exit)
theorem u8_65 (c : UInt8) : ((c.toNat : Int) = 65) = (c = 65) := by rw [eq_iff_iff, ← UInt8.toNat_inj]; simp; omega
theorem u8_66 (c : UInt8) : ((c.toNat : Int) = 66) = (c = 66) := by rw [eq_iff_iff, ← UInt8.toNat_inj]; simp; omega
theorem u8_88 (c : UInt8) : ((c.toNat : Int) = 88) = (c = 88) := by rw [eq_iff_iff, ← UInt8.toNat_inj]; simp; omega
theorem flds_x {op : Int} {c : UInt8} (h : c ∈ flds op) (hc : c = 88) : (2 ≤ op ∧ op ≤ 6) ∨ op = 9 := by
  subst hc
  unfold flds at h
  repeat' split at h
  all_goals first | omega | (exfalso; simp at h)

theorem readsC_one {t : Tr} {i : Ins} {exit : Bool} (hs : ∀ e ∈ t.exits, e.slots.length ≤ 20) (c : UInt8) : (readsC t i exit c).length ≤ 20 := by
  unfold readsC
  split
  · simp
  · split
    · simp
    · split
      · unfold slotsAt
        split
        · rename_i e he; exact hs e (List.mem_of_getElem? he)
        · simp
      · simp
theorem readsC_len {t : Tr} {i : Ins} {exit : Bool} (hs : ∀ e ∈ t.exits, e.slots.length ≤ 20) (l : List UInt8) (j : Nat) (_h : (l.take j).length ≤ j) : ((l.take j).flatMap (readsC t i exit)).length ≤ 20 * j := by
  induction j generalizing l with
  | zero => simp
  | succ j ih =>
    cases l with
    | nil => simp
    | cons c l =>
      rw [List.take_succ_cons, List.flatMap_cons, List.length_append]
      have := readsC_one (i := i) (exit := exit) hs c
      have := ih l (by simp; omega)
      omega
theorem reads_spec (t : Tr) (i : Ins) (exit : Bool) (hi : exit = true → insOk t.regs t.exits.length i = true) (hs : ∀ e ∈ t.exits, e.slots.length ≤ 20) : PCall Try.prog 51 [dTr t, .agg (cIns i), dB exit] fun r => r = dIs (readsV t i exit) := by 
  have hfl := flds_len i.op
  refine pcall_of Try.func51 rfl rfl Try.ntmps51 (rs := [.tmp 6]) (tys := [26]) rfl rfl (by simp) ?_
  (refine awp_sr fun KK hKK => ?_; simp [go_sem]; ((repeat' (first|(refine ag_x ?_;simp [go_sem])|intro _|refine And.intro ?_ ?_|(apply hKK;clear hKK KK)));all_goals first|refine Hold.mk ?_|omega|with_reducible assumption|(simp only [InR] at *;omega)|skip))
  refine awp_frzbox 3 rfl rfl ?_
  refine awp_frzbox 4 rfl rfl ?_
  simp only [go_sem]
  (refine awp_sr fun KK hKK => ?_; simp [go_sem]; ((repeat' (first|(refine ag_x ?_;simp [go_sem])|intro _|refine And.intro ?_ ?_|(apply hKK;clear hKK KK)));all_goals first|refine Hold.mk ?_|omega|with_reducible assumption|(simp only [InR] at *;omega)|skip))
  refine awp_nilslot 7 32 3 1 rfl fun gw => ?_
  simp only [go_sem]
  refine awp_seq_k fun K1 hK1 => ?_
  (refine awp_sr fun KK hKK => ?_; simp [go_sem]; ((repeat' (first|(refine ag_x ?_;simp [go_sem])|intro _|refine And.intro ?_ ?_|(apply hKK;clear hKK KK)));all_goals first|refine Hold.mk ?_|omega|with_reducible assumption|(simp only [InR] at *;omega)|skip))
  ((try refine CallT.toA ?_); refine callT_m (by first | exact .inl ⟨rfl, rfl⟩ | exact .inr rfl) (by simp [go_sem]) ?_; intro args ha; simp [go_sem] at ha; subst ha; refine ⟨_, (fields_spec _), ?_⟩; rintro _ rfl; simp [go_sem]; ((repeat' (first|(refine ag_x ?_;simp [go_sem])|intro _|refine And.intro ?_ ?_|(apply hKK;clear hKK KK)));all_goals first|refine Hold.mk ?_|omega|with_reducible assumption|(simp only [InR] at *;omega)|skip))
  refine awp_block ?_
  refine awp_loop (σ := Nat × Nat) (fun x => ⟨[(2, dB exit), (3, .rd [dI t.regs, .sl 6 (t.code.map cIns), .sl 2 (t.exits.map cExi)]), (4, .rd (cIns i)), (7, .own 32 x.2), (13, dBs (flds i.op)), (14, dI (flds i.op).length), (15, dI x.1)],
    [(32, x.2, .row 3 1 ((((flds i.op).take x.1).flatMap (readsC t i exit)).map cI))]⟩) (fun x => x.1 ≤ (flds i.op).length) (fun x => (flds i.op).length - x.1) (0, gw) ?_ ?_ ?_
  · (refine cov_of ?_ ?_ <;> simp [go_sem])
  · simp
  rintro ⟨j, gw⟩ hj
  simp only at hj
  have hlen : (((flds i.op).take j).flatMap (readsC t i exit)).length ≤ 20 * j := readsC_len hs _ j (by simp; omega)
  generalize hacc : ((flds i.op).take j).flatMap (readsC t i exit) = acc at hlen ⊢
  (refine awp_sr fun KK hKK => ?_; simp [go_sem]; ((repeat' (first|(refine ag_x ?_;simp [go_sem])|intro _|refine And.intro ?_ ?_|(apply hKK;clear hKK KK)));all_goals first|refine Hold.mk ?_|omega|with_reducible assumption|(simp only [InR] at *;omega)|skip))
  refine awp_seq_k fun K2 hK2 => ?_
  (refine awp_if fun T F hT hF => ?_; simp [go_sem]; refine BR.intro (fun h3 => hT ?_) (fun h3 => hF ?_); all_goals clear hT hF T F; try simp at h3) 
  · refine awp_skip ?_
    refine hK2 _ ?_; clear hK2
    obtain ⟨c, hc⟩ : ∃ x, (flds i.op)[j]? = some x := ⟨_, List.getElem?_eq_getElem (by omega)⟩
    have ht : ((flds i.op).take (j + 1)).flatMap (readsC t i exit) = acc ++ readsC t i exit c := by
      rw [List.take_add_one, hc, List.flatMap_append, hacc]; simp
    refine awp_seq_k fun K4 hK4 => ?_
    have tl4 : ∀ S' gw', Cov S' ⟨[(2, dB exit), (3, .rd [dI t.regs, .sl 6 (t.code.map cIns), .sl 2 (t.exits.map cExi)]), (4, .rd (cIns i)), (7, .own 32 gw'), (13, dBs (flds i.op)), (14, dI (flds i.op).length), (15, dI j)],
        [(32, gw', .row 3 1 ((acc ++ readsC t i exit c).map cI))]⟩ → K4 S' := fun S' gw' hS => by
      refine hK4 _ ?_; clear hK4
      refine awp_cov hS ?_; clear hS
      (refine awp_r fun KK hKK => ?_; simp [go_sem]; ((repeat' (first|(refine ag_x ?_;simp [go_sem])|intro _|refine And.intro ?_ ?_|(apply hKK;clear hKK KK)));all_goals first|refine Hold.mk ?_|omega|with_reducible assumption|(simp only [InR] at *;omega)|skip))
      refine ⟨(j + 1, gw'), ?_, by simp; omega, by simp; omega⟩
      rw [ht]
      (refine cov_of ?_ ?_ <;> simp [go_sem])
    clear hK4
    refine awp_block ?_
    (refine awp_sr fun KK hKK => ?_; simp [go_sem, hc]; ((repeat' (first|(refine ag_x ?_;simp [go_sem, hc])|intro _|refine And.intro ?_ ?_|(apply hKK;clear hKK KK)));all_goals first|refine Hold.mk ?_|omega|with_reducible assumption|(simp only [InR] at *;omega)|skip))
    refine awp_block ?_
    (refine awp_sr fun KK hKK => ?_; simp [go_sem]; ((repeat' (first|(refine ag_x ?_;simp [go_sem])|intro _|refine And.intro ?_ ?_|(apply hKK;clear hKK KK)));all_goals first|refine Hold.mk ?_|omega|with_reducible assumption|(simp only [InR] at *;omega)|skip))
    (refine awp_if fun T F hT hF => ?_; simp [go_sem, u8_65, u8_66]; refine BR.intro (fun h5 => hT ?_) (fun h5 => hF ?_); all_goals clear hT hF T F; try simp at h5) 
    · (refine awp_r fun KK hKK => ?_; simp [go_sem]; ((repeat' (first|(refine ag_x ?_;simp [go_sem])|intro _|refine And.intro ?_ ?_|(apply hKK;clear hKK KK)));all_goals first|refine Hold.mk ?_|omega|with_reducible assumption|(simp only [InR] at *;omega)|skip))
      ((try refine CallT.toA ?_); refine callT_m (by first | exact .inl ⟨rfl, rfl⟩ | exact .inr rfl) (by simp [go_sem]) ?_; intro args ha; simp [go_sem] at ha; subst ha; refine ⟨_, (field_spec' _ _), ?_⟩; rintro _ rfl; simp [go_sem]; ((repeat' (first|(refine ag_x ?_;simp [go_sem])|intro _|refine And.intro ?_ ?_|(apply hKK;clear hKK KK)));all_goals first|refine Hold.mk ?_|omega|with_reducible assumption|(simp only [InR] at *;omega)|skip))
      rename_i g7 g8
      have e : readsC t i exit c = [fVal i c.toNat] := by
        rcases h5 with rfl | rfl <;> simp [readsC, fVal]
      refine tl4 _ g8 ?_
      rw [e]
      (refine cov_of ?_ ?_ <;> simp [go_sem])
    · (refine awp_sr fun KK hKK => ?_; simp [go_sem]; ((repeat' (first|(refine ag_x ?_;simp [go_sem])|intro _|refine And.intro ?_ ?_|(apply hKK;clear hKK KK)));all_goals first|refine Hold.mk ?_|omega|with_reducible assumption|(simp only [InR] at *;omega)|skip))
      (refine awp_if fun T F hT hF => ?_; simp [go_sem, u8_88]; refine BR.intro (fun h6 => hT ?_) (fun h6 => hF ?_); all_goals clear hT hF T F; try simp at h6) 
      · obtain ⟨h6, h6b⟩ := h6
        have hx := insOk_exit (hi h6b) (flds_x (List.mem_of_getElem? hc) h6)
        obtain ⟨e, he⟩ : ∃ e, t.exits[i.x.toNat]? = some e := ⟨_, List.getElem?_eq_getElem (by omega)⟩
        have hse := hs e (List.mem_of_getElem? he)
        have hre : readsC t i exit c = e.slots := by subst h6; simp [readsC, h6b, slotsAt, he]
        (refine awp_r fun KK hKK => ?_; simp [go_sem, he]; ((repeat' (first|(refine ag_x ?_;simp [go_sem, he])|intro _|refine And.intro ?_ ?_|(apply hKK;clear hKK KK)));all_goals first|refine Hold.mk ?_|omega|with_reducible assumption|(simp only [InR] at *;omega)|skip))
        rename_i g8
        refine tl4 _ g8 ?_
        rw [hre]
        (refine cov_of ?_ ?_ <;> simp [go_sem])
      · have hre : readsC t i exit c = [] := by
          have h6' : ¬ (c = 88 ∧ exit = true) := by
            rintro ⟨a, b⟩
            simp [a, b] at h6
          simp [readsC, h5, h6']
        refine awp_skip ?_
        refine tl4 _ gw ?_
        rw [hre]
        (refine cov_of ?_ ?_ <;> simp [go_sem])
  · refine awp_exit ?_
    simp only [go_sem]
    refine hK1 _ ?_; clear hK1
    have : j = (flds i.op).length := by omega
    subst this
    rw [List.take_length] at hacc
    (refine awp_sr fun KK hKK => ?_; simp [go_sem]; ((repeat' (first|(refine ag_x ?_;simp [go_sem])|intro _|refine And.intro ?_ ?_|(apply hKK;clear hKK KK)));all_goals first|refine Hold.mk ?_|omega|with_reducible assumption|(simp only [InR] at *;omega)|skip))
    (refine awp_ret ?_; simp [go_sem, readsV])
    rw [hacc]
end Go.Proofs.Ytmgbaegdkjcagaa

namespace Go.Proofs.Ytmgbaegdkjcagaa
open Go.Eng
set_option maxRecDepth 20000
attribute [local irreducible] AG CallA CallT AWp PCall ACall AgC

/-- the instructions of a code that write a register, from a place on -/
def wrFrom (r : Int) : List Ins → Nat → List Nat
  | [], _ => []
  | i :: is, k => if i.op ≤ 8 ∧ i.d = r then k :: wrFrom r is (k + 1) else wrFrom r is (k + 1)
def wrs (code : List Ins) (r : Int) : List Nat := wrFrom r code 0
theorem wrFrom_app (r : Int) : ∀ (l m : List Ins) (k : Nat), wrFrom r (l ++ m) k = wrFrom r l k ++ wrFrom r m (k + l.length)
  | [], m, k => by simp [wrFrom]
  | i :: l, m, k => by
    simp only [List.cons_append, wrFrom, List.length_cons, wrFrom_app r l m (k + 1), show k + 1 + l.length = k + (l.length + 1) by omega]
    split <;> simp
theorem wrFrom_len (r : Int) : ∀ (l : List Ins) (k : Nat), (wrFrom r l k).length ≤ l.length
  | [], k => by simp [wrFrom]
  | i :: l, k => by
    have := wrFrom_len r l (k + 1)
    simp only [wrFrom, List.length_cons]
    split <;> simp <;> omega
theorem wrs_step {code : List Ins} {k : Nat} {i : Ins} (h : code[k]? = some i) (r : Int) : wrs (code.take (k + 1)) r = wrs (code.take k) r ++ (if i.op ≤ 8 ∧ i.d = r then [k] else []) := by
  have hk := (List.getElem?_eq_some_iff.1 h).1
  rw [List.take_add_one, h]
  unfold wrs
  rw [wrFrom_app]
  simp only [Option.toList, wrFrom, List.length_take, Nat.zero_add]
  rw [Nat.min_eq_left (by omega)]
def nI (l : List Nat) : List Int := l.map Int.ofNat
/-- does a register vary from round to round, by what is known to be invariant -/
def varies (code : List Ins) (out : List Nat) (r : Int) : Bool := decide (1 < (wrs code r).length) || (decide ((wrs code r).length = 1) && !out.contains ((wrs code r).headD 0))
theorem nI_contains (l : List Nat) (k : Nat) : (nI l).contains (k : Int) = l.contains k := by
  rw [Bool.eq_iff_iff]
  simp only [nI, List.contains_iff_mem, List.mem_map]
  constructor
  · rintro ⟨a, ha, e⟩
    have : a = k := Int.ofNat.inj e
    exact this ▸ ha
  · exact fun h => ⟨k, h, rfl⟩

theorem vary_spec (t : Tr) (out : List Nat) (r : Int) (hc : t.code.length ≤ 60) (ho : out.length ≤ 60) :
    PCall Try.prog 52 [dI r, .rd [dI t.regs, .sl 6 (t.code.map cIns), .sl 2 (t.exits.map cExi)], .rd [dIs (nI out)]] fun d => d = dB (varies t.code out r) := by 
  refine pcall_of Try.func52 rfl rfl Try.ntmps52 (rs := [.tmp 4]) (tys := [4]) rfl rfl (by simp) ?_
  (refine awp_sr fun KK hKK => ?_; simp [go_sem]; ((repeat' (first|(refine ag_x ?_;simp [go_sem])|intro _|refine And.intro ?_ ?_|(apply hKK;clear hKK KK)));all_goals first|refine Hold.mk ?_|omega|with_reducible assumption|(simp only [InR] at *;omega)|skip))
  (refine awp_sr fun KK hKK => ?_; simp [go_sem]; ((repeat' (first|(refine ag_x ?_;simp [go_sem])|intro _|refine And.intro ?_ ?_|(apply hKK;clear hKK KK)));all_goals first|refine Hold.mk ?_|omega|with_reducible assumption|(simp only [InR] at *;omega)|skip))
  refine awp_nilslot 5 28 3 1 rfl fun gb => ?_
  simp only [go_sem]
  refine awp_seq_k fun K1 hK1 => ?_
  (refine awp_sr fun KK hKK => ?_; simp [go_sem]; ((repeat' (first|(refine ag_x ?_;simp [go_sem])|intro _|refine And.intro ?_ ?_|(apply hKK;clear hKK KK)));all_goals first|refine Hold.mk ?_|omega|with_reducible assumption|(simp only [InR] at *;omega)|skip))
  refine awp_block ?_
  refine awp_loop (σ := Nat × Nat) (fun x => ⟨[(0, dI r), (2, .rd [dIs (nI out)]), (5, .own 28 x.2), (9, .sl 6 (t.code.map cIns)), (10, dI t.code.length), (11, dI x.1)], [(28, x.2, .row 3 1 ((nI (wrs (t.code.take x.1) r)).map cI))]⟩)
    (fun x => x.1 ≤ t.code.length) (fun x => t.code.length - x.1) (0, gb) ?_ ?_ ?_
  · (refine cov_of ?_ ?_ <;> simp [go_sem, wrs, wrFrom, nI])
  · simp
  rintro ⟨k, gb⟩ hk
  simp only at hk
  have hlen : (wrs (t.code.take k) r).length ≤ 60 := by have := wrFrom_len r (t.code.take k) 0; simp at this; unfold wrs; omega
  (refine awp_sr fun KK hKK => ?_; simp [go_sem]; ((repeat' (first|(refine ag_x ?_;simp [go_sem])|intro _|refine And.intro ?_ ?_|(apply hKK;clear hKK KK)));all_goals first|refine Hold.mk ?_|omega|with_reducible assumption|(simp only [InR] at *;omega)|skip))
  refine awp_seq_k fun K2 hK2 => ?_
  (refine awp_if fun T F hT hF => ?_; simp [go_sem]; refine BR.intro (fun h3 => hT ?_) (fun h3 => hF ?_); all_goals clear hT hF T F; try simp at h3) 
  · refine awp_skip ?_
    refine hK2 _ ?_; clear hK2
    obtain ⟨x, hx⟩ : ∃ x, t.code[k]? = some x := ⟨_, List.getElem?_eq_getElem (by omega)⟩
    have hst := wrs_step hx r
    generalize hacc : wrs (t.code.take k) r = acc at hlen hst ⊢
    refine awp_seq_k fun K4 hK4 => ?_
    have tl4 : ∀ S' gb', Cov S' ⟨[(0, dI r), (2, .rd [dIs (nI out)]), (5, .own 28 gb'), (9, .sl 6 (t.code.map cIns)), (10, dI t.code.length), (11, dI k)], [(28, gb', .row 3 1 ((nI (acc ++ (if x.op ≤ 8 ∧ x.d = r then [k] else []))).map cI))]⟩ → K4 S' := fun S' gb' hS => by
      refine hK4 _ ?_; clear hK4
      refine awp_cov hS ?_; clear hS
      (refine awp_r fun KK hKK => ?_; simp [go_sem]; ((repeat' (first|(refine ag_x ?_;simp [go_sem])|intro _|refine And.intro ?_ ?_|(apply hKK;clear hKK KK)));all_goals first|refine Hold.mk ?_|omega|with_reducible assumption|(simp only [InR] at *;omega)|skip))
      refine ⟨(k + 1, gb'), ?_, by simp; omega, by simp; omega⟩
      rw [hst]
      (refine cov_of ?_ ?_ <;> simp [go_sem])
    clear hK4
    refine awp_block ?_
    (refine awp_sr fun KK hKK => ?_; simp [go_sem, hx]; ((repeat' (first|(refine ag_x ?_;simp [go_sem, hx])|intro _|refine And.intro ?_ ?_|(apply hKK;clear hKK KK)));all_goals first|refine Hold.mk ?_|omega|with_reducible assumption|(simp only [InR] at *;omega)|skip))
    rename_i g7
    refine awp_frzbox 7 rfl rfl ?_
    simp only [go_sem]
    (refine awp_sr fun KK hKK => ?_; simp [go_sem]; ((repeat' (first|(refine ag_x ?_;simp [go_sem])|intro _|refine And.intro ?_ ?_|(apply hKK;clear hKK KK)));all_goals first|refine Hold.mk ?_|omega|with_reducible assumption|(simp only [InR] at *;omega)|skip))
    ((try refine CallT.toA ?_); refine callT_m (by first | exact .inl ⟨rfl, rfl⟩ | exact .inr rfl) (by simp [go_sem]) ?_; intro args ha; simp [go_sem] at ha; subst ha; refine ⟨_, (writes_spec _), ?_⟩; rintro _ rfl; simp [go_sem]; ((repeat' (first|(refine ag_x ?_;simp [go_sem])|intro _|refine And.intro ?_ ?_|(apply hKK;clear hKK KK)));all_goals first|refine Hold.mk ?_|omega|with_reducible assumption|(simp only [InR] at *;omega)|skip))
    have hnl : (nI acc).length ≤ 60 := by simp [nI]; omega
    (refine awp_if fun T F hT hF => ?_; simp [go_sem]; refine BR.intro (fun h5 => hT ?_) (fun h5 => hF ?_); all_goals clear hT hF T F; try simp at h5) 
    · (refine awp_r fun KK hKK => ?_; simp [go_sem]; ((repeat' (first|(refine ag_x ?_;simp [go_sem])|intro _|refine And.intro ?_ ?_|(apply hKK;clear hKK KK)));all_goals first|refine Hold.mk ?_|omega|with_reducible assumption|(simp only [InR] at *;omega)|skip))
      rename_i ga gb2
      refine tl4 _ gb2 ?_
      rw [if_pos h5]
      (refine cov_of ?_ ?_ <;> simp [go_sem, nI])
    · refine awp_skip ?_
      refine tl4 _ gb ?_
      rw [if_neg (by rintro ⟨a, b⟩; exact h5 a b)]
      (refine cov_of ?_ ?_ <;> simp [go_sem])
  · refine awp_exit ?_
    simp only [go_sem]
    refine hK1 _ ?_; clear hK1
    have : k = t.code.length := by omega
    subst this
    simp only [List.take_length] at hlen ⊢
    generalize hw : wrs t.code r = ws at hlen ⊢
    have hnl : (nI ws).length = ws.length := by simp [nI]
    have hvar : varies t.code out r = (decide (1 < ws.length) || (decide (ws.length = 1) && !out.contains (ws.headD 0))) := by rw [varies, hw]
    rw [hvar]
    match ws, hlen, hnl with
    | [], _, _ =>
      ((refine awp_dr (.qs [0, 1, 2, 3, 4, 5, 6, 7] (.sk 9 (.sk 10 (.sk 8 (.sk 11 (.sk 12 (.sk 13 (.qs [14, 15, 16] (.nil))))))))) (by kernel_rfl) ?_ ?_ ?_ ?_); (kernel_rfl); (exact (by decide +kernel)); (kernel_rfl); intro KK hKK; ((repeat' (first|(refine ag_x ?_;simp [go_sem, show nI [] = [] from rfl])|refine adr_nil ?_|refine adr_two ?_ ?_|refine adr_kp2 ?_ ?_|((first|refine adr_qs fun KK hKK=>?_|refine adr_y fun KK hKK=>?_);simp [go_sem, show nI [] = [] from rfl])|intro _|refine And.intro ?_ ?_|(apply hKK;clear hKK KK)));all_goals first|refine Hold.mk ?_|omega|with_reducible assumption|(simp only [InR] at *;omega)|skip))
      (refine awp_ret ?_; simp [go_sem])
    | [j], _, _ =>
      have hj : nI [j] = [(j : Int)] := rfl
      have hco : PCall Try.prog 53 [dIs (nI out), dI (j : Int)] fun r => r = dB (out.contains j) := by
        rw [← nI_contains]
        exact containsI_spec (nI out) j (by simp [nI]; omega)
      ((refine awp_dr (.qs [0, 1, 2, 3, 4, 5, 6, 7, 9, 10, 8, 11] (.one 12 (.qs [13, 14, 15, 16] (.nil)))) (by kernel_rfl) ?_ ?_ ?_ ?_); (kernel_rfl); (exact (by decide +kernel)); (kernel_rfl); intro KK hKK; ((repeat' (first|(refine ag_x ?_;simp [go_sem, hj])|refine adr_nil ?_|refine adr_two ?_ ?_|refine adr_kp2 ?_ ?_|((first|refine adr_qs fun KK hKK=>?_|refine adr_y fun KK hKK=>?_);simp [go_sem, hj])|intro _|refine And.intro ?_ ?_|(apply hKK;clear hKK KK)));all_goals first|refine Hold.mk ?_|omega|with_reducible assumption|(simp only [InR] at *;omega)|skip))
      (refine agc_f (dB (out.contains j)) (by first | exact .inl ⟨rfl, rfl⟩ | exact .inr rfl) ?_ rfl ?_; (intro hc args ha; simp [go_sem] at ha; subst ha; exact hco); simp [go_sem]; ((repeat' (first|(refine ag_x ?_;simp [go_sem])|refine adr_nil ?_|refine adr_two ?_ ?_|refine adr_kp2 ?_ ?_|((first|refine adr_qs fun KK hKK=>?_|refine adr_y fun KK hKK=>?_);simp [go_sem])|intro _|refine And.intro ?_ ?_|(apply hKK;clear hKK KK)));all_goals first|refine Hold.mk ?_|omega|with_reducible assumption|(simp only [InR] at *;omega)|skip))
      (refine awp_ret ?_; simp [go_sem])
    | j1 :: j2 :: rest, _, hnl =>
      ((refine awp_dr (.qs [0, 1, 2, 3, 4, 5, 6, 7] (.sk 9 (.sk 10 (.sk 8 (.sk 11 (.sk 12 (.sk 13 (.sk 14 (.qs [15, 16] (.nil)))))))))) (by kernel_rfl) ?_ ?_ ?_ ?_); (kernel_rfl); (exact (by decide +kernel)); (kernel_rfl); intro KK hKK; ((repeat' (first|(refine ag_x ?_;simp [go_sem, hnl])|refine adr_nil ?_|refine adr_two ?_ ?_|refine adr_kp2 ?_ ?_|((first|refine adr_qs fun KK hKK=>?_|refine adr_y fun KK hKK=>?_);simp [go_sem, hnl])|intro _|refine And.intro ?_ ?_|(apply hKK;clear hKK KK)));all_goals first|refine Hold.mk ?_|omega|with_reducible assumption|(simp only [InR] at *;omega)|skip))
      (refine awp_ret ?_; simp [go_sem])
end Go.Proofs.Ytmgbaegdkjcagaa

namespace Go.Proofs.Ytmgbaegdkjcagaa
open Go.Eng

/-! what is invariant -/
def invStep (t : Tr) (out : List Nat) (k : Nat) (i : Ins) : List Nat := if i.op ≤ 8 ∧ (readsV t i false).any (varies t.code out) = false then out ++ [k] else out
def invFrom (t : Tr) : List Ins → Nat → List Nat → List Nat
  | [], _, out => out
  | i :: is, k, out => invFrom t is (k + 1) (invStep t out k i)
def invV (t : Tr) : List Nat := invFrom t t.code 0 []

theorem invFrom_sub (t : Tr) : ∀ (is : List Ins) (k : Nat) (out : List Nat), ∀ m ∈ out, m ∈ invFrom t is k out
  | [], _, _, m, h => h
  | i :: is, k, out, m, h => invFrom_sub t is (k + 1) _ m (by unfold invStep; split <;> simp [h])
/-- what an invariant instruction reads is never written, or once, ahead, by an invariant one -/
def Steady (t : Tr) (inv : List Nat) (j : Nat) (i : Ins) : Prop := i.op ≤ 8 ∧ ∀ r ∈ readsV t i false, wrs t.code r = [] ∨ ∃ m, wrs t.code r = [m] ∧ m ∈ inv ∧ m < j
theorem invFrom_spec (t : Tr) : ∀ (is : List Ins) (k : Nat) (out : List Nat), (∀ m ∈ out, m < k) → ∀ j ∈ invFrom t is k out, j ∈ out ∨ ∃ i, is[j - k]? = some i ∧ k ≤ j ∧ Steady t (invFrom t is k out) j i
  | [], _, _, _, j, h => .inl h
  | i :: is, k, out, ho, j, h => by
    have ho' : ∀ m ∈ invStep t out k i, m < k + 1 := fun m hm => by
      unfold invStep at hm
      split at hm
      · rcases List.mem_append.1 hm with h | h
        · have := ho m h; omega
        · rw [List.mem_singleton.1 h]; omega
      · have := ho m hm; omega
    rcases invFrom_spec t is (k + 1) _ ho' j h with h1 | ⟨i', h1, h2, h3⟩
    · unfold invStep at h1
      split at h1
      · rename_i hc
        rcases List.mem_append.1 h1 with h1 | h1
        · exact .inl h1
        · rw [List.mem_singleton.1 h1]
          refine .inr ⟨i, by simp, Nat.le_refl _, hc.1, fun r hr => ?_⟩
          have hv := List.any_eq_false.1 hc.2 r hr
          simp only [varies, Bool.or_eq_true, decide_eq_true_eq, Bool.and_eq_true, Bool.not_eq_true', not_or, not_and, Bool.not_eq_false] at hv
          cases hw : wrs t.code r with
          | nil => exact .inl rfl
          | cons m l =>
            rw [hw] at hv
            have hl : l = [] := by
              cases l with
              | nil => rfl
              | cons _ _ => exfalso; have := hv.1; simp at this
            subst hl
            have hm : m ∈ out := by have := hv.2 rfl; simpa using this
            exact .inr ⟨m, rfl, invFrom_sub t _ _ _ m hm, ho m hm⟩
      · exact .inl h1
    · refine .inr ⟨i', ?_, by omega, h3⟩
      rw [show j - k = (j - (k + 1)) + 1 by omega]
      simpa using h1
theorem inv_at {t : Tr} {j : Nat} (h : j ∈ invV t) : ∃ i, t.code[j]? = some i ∧ Steady t (invV t) j i := by
  rcases invFrom_spec t t.code 0 [] (by simp) j h with h | ⟨i, h1, _, h3⟩
  · cases h
  · exact ⟨i, by simpa using h1, h3⟩

theorem mem_wrFrom (r : Int) : ∀ (l : List Ins) (k j : Nat), j ∈ wrFrom r l k ↔ k ≤ j ∧ ∃ i, l[j - k]? = some i ∧ i.op ≤ 8 ∧ i.d = r
  | [], k, j => by simp [wrFrom]
  | i :: l, k, j => by
    have ih := mem_wrFrom r l (k + 1) j
    have key : (k ≤ j ∧ ∃ i', (i :: l)[j - k]? = some i' ∧ i'.op ≤ 8 ∧ i'.d = r) ↔ (j = k ∧ i.op ≤ 8 ∧ i.d = r) ∨ (k + 1 ≤ j ∧ ∃ i', l[j - (k + 1)]? = some i' ∧ i'.op ≤ 8 ∧ i'.d = r) := by
      constructor
      · rintro ⟨h1, i', h2, h3⟩
        by_cases hj : j = k
        · subst hj; simp at h2; subst h2; exact .inl ⟨rfl, h3⟩
        · rw [show j - k = (j - (k + 1)) + 1 by omega] at h2
          exact .inr ⟨by omega, i', by simpa using h2, h3⟩
      · rintro (⟨rfl, h3⟩ | ⟨h1, i', h2, h3⟩)
        · exact ⟨Nat.le_refl _, i, by simp, h3⟩
        · refine ⟨by omega, i', ?_, h3⟩
          rw [show j - k = (j - (k + 1)) + 1 by omega]
          simpa using h2
    rw [key, ← ih]
    simp only [wrFrom]
    split
    · rename_i hc
      simp [hc]
    · rename_i hc
      simp [hc]
theorem mem_wrs {code : List Ins} {r : Int} {j : Nat} : j ∈ wrs code r ↔ ∃ i, code[j]? = some i ∧ i.op ≤ 8 ∧ i.d = r := by
  unfold wrs; rw [mem_wrFrom]; simp

/-! the words that invariant instructions give -/
def valS (i : Ins) (a b : Int) : Int := if i.op = 0 then i.n else if i.op = 1 then a else (valR i.op a b).1
def rgS (code : List Ins) (ws0 : List Int) (p : List Int) (r : Int) : Int := match wrs code r with
  | [m] => p.getD m 0
  | _ => wAt ws0 r
def clS (code : List Ins) (ws0 : List Int) : Nat → List Int
  | 0 => []
  | j + 1 => clS code ws0 j ++ [match code[j]? with
    | some i => valS i (rgS code ws0 (clS code ws0 j) i.a) (rgS code ws0 (clS code ws0 j) i.b)
    | none => 0]
theorem clS_len (code : List Ins) (ws0 : List Int) : ∀ n, (clS code ws0 n).length = n
  | 0 => rfl
  | n + 1 => by simp [clS, clS_len code ws0 n]
def cS (code : List Ins) (ws0 : List Int) (m : Nat) : Int := (clS code ws0 (m + 1)).getD m 0
theorem clS_at (code : List Ins) (ws0 : List Int) (m : Nat) : ∀ n, m < n → (clS code ws0 n).getD m 0 = cS code ws0 m
  | 0, h => by omega
  | n + 1, h => by
    by_cases hm : m = n
    · subst hm; rfl
    · have ih := clS_at code ws0 m n (by omega)
      rw [← ih]
      simp only [clS, List.getD_eq_getElem?_getD]
      rw [List.getElem?_append_left (by rw [clS_len]; omega)]
theorem cS_eq {code : List Ins} {ws0 : List Int} {j : Nat} {i : Ins} (h : code[j]? = some i) : cS code ws0 j = valS i (rgS code ws0 (clS code ws0 j) i.a) (rgS code ws0 (clS code ws0 j) i.b) := by
  simp only [cS, clS, h, List.getD_eq_getElem?_getD]
  rw [List.getElem?_append_right (by rw [clS_len]; omega), clS_len]
  simp

/-- an instruction that writes, and does not leave -/
theorem stepV_write {i : Ins} {ws : List Int} (h0 : 0 ≤ i.op) (h8 : i.op ≤ 8) (hx : (stepV i ws).2.2.1 = false) : (stepV i ws).2.1 = false ∧ (stepV i ws).2.2.2 = ws.set i.d.toNat (valS i (wAt ws i.a) (wAt ws i.b)) := by
  unfold stepV at hx ⊢
  by_cases h : i.op = 0
  · simp [h, valS]
  by_cases h1 : i.op = 1
  · simp [h1, valS]
  have h9 : ¬ i.op = 9 := by omega
  have h10 : ¬ i.op = 10 := by omega
  simp only [h, h1, h9, h10, if_false] at hx ⊢
  split at hx
  · rename_i hv; simp [hv, valS, h, h1]
  · cases hx
theorem stepV_guard {i : Ins} {ws : List Int} (h : i.op = 9) : (stepV i ws).2.1 = false ∧ (stepV i ws).2.2.2 = ws := by simp [stepV, h]
theorem stepV_tell {i : Ins} {ws : List Int} (h : i.op = 10) : stepV i ws = (wAt ws i.a, true, false, ws) := by simp [stepV, h]

theorem wAt_set {ws : List Int} {d r : Int} {v : Int} (hd : 0 ≤ d) (hr : 0 ≤ r) (hl : d < ws.length) : wAt (ws.set d.toNat v) r = if d = r then v else wAt ws r := by
  unfold wAt
  rw [List.getD_eq_getElem?_getD, List.getElem?_set]
  by_cases h : d = r
  · subst h
    rw [if_pos rfl, if_pos rfl, if_pos (by omega)]
    rfl
  · rw [if_neg (by omega), if_neg h, List.getD_eq_getElem?_getD]

theorem flds_reads {i : Ins} {t : Tr} (h0 : 0 ≤ i.op) (h8 : i.op ≤ 8) : (1 ≤ i.op → i.a ∈ readsV t i false) ∧ (2 ≤ i.op → i.b ∈ readsV t i false) := by
  have : i.op = 0 ∨ i.op = 1 ∨ i.op = 2 ∨ i.op = 3 ∨ i.op = 4 ∨ i.op = 5 ∨ i.op = 6 ∨ i.op = 7 ∨ i.op = 8 := by omega
  rcases this with h | h | h | h | h | h | h | h | h <;> simp [readsV, flds, h, readsC]

/-- what holds of the words ahead of an instruction -/
structure Ahead (t : Tr) (ws0 : List Int) (pos : Nat) (ws : List Int) : Prop where
  len : (ws.length : Int) = t.regs
  free : ∀ r, 0 ≤ r → wrs t.code r = [] → wAt ws r = wAt ws0 r
  inv : ∀ m i, m < pos → m ∈ invV t → t.code[m]? = some i → wrs t.code i.d = [m] → wAt ws i.d = cS t.code ws0 m

theorem steady_val {t : Tr} {ws0 ws : List Int} {pos : Nat} {i : Ins} (hok : trOk t = true) (hp : pos ∈ invV t) (hi : t.code[pos]? = some i) (h : Ahead t ws0 pos ws) : valS i (wAt ws i.a) (wAt ws i.b) = cS t.code ws0 pos := by
  obtain ⟨i', hi', h8, hst⟩ := inv_at hp
  rw [hi] at hi'
  simp only [Option.some.injEq] at hi'
  subst hi'
  obtain ⟨h0, _, ha, hb, _, _⟩ := insOk_regs (insOk_at hok hi) (trOk_regs hok).1
  obtain ⟨ra, rb⟩ := flds_reads (t := t) h0 h8
  have rd : ∀ r, 0 ≤ r → r ∈ readsV t i false → wAt ws r = rgS t.code ws0 (clS t.code ws0 pos) r := fun r hr hm => by
    unfold rgS
    rcases hst r hm with hw | ⟨m, hw, hmi, hmp⟩
    · rw [hw]; exact h.free r hr hw
    · rw [hw]
      simp only
      obtain ⟨im, him, hop, hd⟩ := mem_wrs.1 (show m ∈ wrs t.code r by rw [hw]; simp)
      rw [clS_at _ _ _ _ hmp, ← hd]
      exact h.inv m im hmp hmi him (by rw [hd]; exact hw)
  rw [cS_eq hi]
  unfold valS
  by_cases hz : i.op = 0
  · simp [hz]
  by_cases h1 : i.op = 1
  · simp [h1, rd i.a ha.1 (ra (by omega))]
  · simp [hz, h1, rd i.a ha.1 (ra (by omega)), rd i.b hb.1 (rb (by omega))]

theorem ahead_step {t : Tr} {ws0 ws : List Int} {pos : Nat} {i : Ins} (hok : trOk t = true) (hi : t.code[pos]? = some i) (h9 : i.op ≤ 9) (h : Ahead t ws0 pos ws) (hx : (stepV i ws).2.2.1 = false) : Ahead t ws0 (pos + 1) (stepV i ws).2.2.2 := by
  obtain ⟨h0, _, _, _, hd, _⟩ := insOk_regs (insOk_at hok hi) (trOk_regs hok).1
  by_cases hg : i.op = 9
  · rw [(stepV_guard hg).2]
    refine ⟨h.len, h.free, fun m im hm hmi him hw => ?_⟩
    by_cases hmp : m = pos
    · subst hmp
      rw [hi] at him
      simp only [Option.some.injEq] at him
      subst him
      obtain ⟨i', hi', h8, _⟩ := inv_at hmi
      rw [hi] at hi'
      simp only [Option.some.injEq] at hi'
      subst hi'
      omega
    · exact h.inv m im (by omega) hmi him hw
  · have h8 : i.op ≤ 8 := by omega
    have hdl : i.d < ws.length := by have := h.len; omega
    have hpw : pos ∈ wrs t.code i.d := mem_wrs.2 ⟨i, hi, h8, rfl⟩
    rw [(stepV_write h0 h8 hx).2]
    refine ⟨by simpa using h.len, fun r hr hw => ?_, fun m im hm hmi him hw => ?_⟩
    · rw [wAt_set hd.1 hr hdl, if_neg (by rintro rfl; rw [hw] at hpw; cases hpw)]
      exact h.free r hr hw
    · obtain ⟨_, _, _, _, hdm, _⟩ := insOk_regs (insOk_at hok him) (trOk_regs hok).1
      rw [wAt_set hd.1 hdm.1 hdl]
      by_cases hmp : m = pos
      · subst hmp
        rw [hi] at him
        simp only [Option.some.injEq] at him
        subst him
        rw [if_pos rfl]
        exact steady_val hok hmi hi h
      · rw [if_neg]
        · exact h.inv m im (by omega) hmi him hw
        · intro e
          rw [e, hw] at hpw
          exact hmp (List.mem_singleton.1 hpw).symm

/-- the code that tells the word behind instruction k, and nothing else -/
def stFrom (k : Nat) (D : Int) : List Ins → Nat → List Ins
  | [], _ => []
  | i :: is, j => (if i.op ≠ 10 then [i] else []) ++ ((if j = k then [⟨10, 0, D, 0, 0, 0⟩] else []) ++ stFrom k D is (j + 1))

theorem goCode_steady {t : Tr} {ws0 : List Int} {k : Nat} {ik : Ins} (hok : trOk t = true) (hk : k ∈ invV t) (hik : t.code[k]? = some ik) : ∀ (is : List Ins) (pos : Nat) (ws told : List Int), t.code.drop pos = is → Ahead t ws0 pos ws → (∀ x ∈ told, x = cS t.code ws0 k) →
    (∀ x ∈ (goCode (stFrom k ik.d is pos) ws told).2.1, x = cS t.code ws0 k) ∧ ((goCode (stFrom k ik.d is pos) ws told).2.2 = none → Ahead t ws0 t.code.length (goCode (stFrom k ik.d is pos) ws told).1)
  | [], pos, ws, told, hdrop, hA, ht => by
    refine ⟨by simpa [stFrom, goCode] using ht, fun _ => ?_⟩
    have hl : t.code.length ≤ pos := by simpa using hdrop
    simp only [stFrom, goCode]
    exact ⟨hA.len, hA.free, fun m i hm h1 h2 h3 => hA.inv m i (by omega) h1 h2 h3⟩
  | i :: is, pos, ws, told, hdrop, hA, ht => by
    have hi : t.code[pos]? = some i := by
      have h1 := congrArg (·[0]?) hdrop
      simp only [List.getElem?_drop, Nat.add_zero, List.getElem?_cons_zero] at h1
      exact h1
    have hnext : t.code.drop (pos + 1) = is := by
      rw [← List.drop_drop, hdrop]; rfl
    obtain ⟨h0, h10, _, _, hd, _⟩ := insOk_regs (insOk_at hok hi) (trOk_regs hok).1
    simp only [stFrom]
    by_cases hte : i.op = 10
    ·
      have hpk : ¬ pos = k := by
        rintro rfl
        rw [hik] at hi
        simp only [Option.some.injEq] at hi
        subst hi
        obtain ⟨i', hi', h8, _⟩ := inv_at hk
        rw [hik] at hi'
        simp only [Option.some.injEq] at hi'
        subst hi'
        omega
      simp only [hte, ne_eq, not_true_eq_false, if_false, hpk, List.nil_append]
      have hA' : Ahead t ws0 (pos + 1) ws := ⟨hA.len, hA.free, fun m im hm h1 h2 h3 => by
        by_cases hmp : m = pos
        · subst hmp
          obtain ⟨i', hi', h8, _⟩ := inv_at h1
          rw [hi] at hi'
          simp only [Option.some.injEq] at hi'
          subst hi'
          omega
        · exact hA.inv m im (by omega) h1 h2 h3⟩
      exact goCode_steady hok hk hik is (pos + 1) ws told hnext hA' ht
    · simp only [ne_eq, hte, not_false_eq_true, if_true, List.cons_append, List.nil_append]
      simp only [goCode]
      have hnt : (stepV i ws).2.1 = false := by
        by_cases hg : i.op = 9
        · exact (stepV_guard hg).1
        · by_cases hx : (stepV i ws).2.2.1 = true
          · unfold stepV at hx ⊢
            repeat' split at hx
            all_goals simp_all
          · exact (stepV_write h0 (by omega) (by simpa using hx)).1
      simp only [hnt, Bool.false_and, Bool.false_eq_true, if_false]
      split
      · exact ⟨ht, fun h => by cases h⟩
      · rename_i hx
        have hx : (stepV i ws).2.2.1 = false := by simpa using hx
        have hA' := ahead_step hok hi (by omega) hA hx
        by_cases hpk : pos = k
        · subst hpk
          rw [hik] at hi
          simp only [Option.some.injEq] at hi
          subst hi
          simp only [if_true, List.cons_append, List.nil_append, goCode]
          rw [stepV_tell rfl]
          simp only [Bool.true_and, Bool.false_eq_true, if_false]
          have h8 : ik.op ≤ 8 := by
            obtain ⟨i', hi', h8, _⟩ := inv_at hk
            rw [hik] at hi'
            simp only [Option.some.injEq] at hi'
            subst hi'
            exact h8
          have hv : wAt (stepV ik ws).2.2.2 ik.d = cS t.code ws0 pos := by
            rw [(stepV_write h0 h8 hx).2, wAt_set hd.1 hd.1 (by have := hA.len; omega), if_pos rfl]
            exact steady_val hok hk hik hA
          refine goCode_steady hok hk hik is (pos + 1) _ _ hnext hA' fun x hx => ?_
          split at hx
          · rcases List.mem_append.1 hx with h | h
            · exact ht x h
            · rw [List.mem_singleton.1 h]; exact hv
          · exact ht x hx
        · simp only [hpk, if_false, List.nil_append]
          exact goCode_steady hok hk hik is (pos + 1) _ _ hnext hA' ht

theorem goRounds_steady {t p : Tr} {ws0 : List Int} {k : Nat} {ik : Ins} (hok : trOk t = true) (hk : k ∈ invV t) (hik : t.code[k]? = some ik) (hp : p.code = stFrom k ik.d t.code 0) : ∀ (n r : Nat) (ws told : List Int), Ahead t ws0 0 ws → (∀ x ∈ told, x = cS t.code ws0 k) →
    ∀ x ∈ (goRounds p n r ws told).told, x = cS t.code ws0 k
  | 0, r, ws, told, hA, ht => ht
  | n + 1, r, ws, told, hA, ht => by
    obtain ⟨h1, h2⟩ := goCode_steady hok hk hik t.code 0 ws told rfl hA ht
    rw [← hp] at h1 h2
    simp only [goRounds]
    split
    · rename_i ws' told' x he
      rw [he] at h1
      rw [(leave_told p x (r + 1) ws' told').1]
      exact h1
    · rename_i ws' told' he
      rw [he] at h1 h2
      have hA' := h2 rfl
      exact goRounds_steady hok hk hik hp n (r + 1) ws' told' ⟨hA'.len, hA'.free, fun m i hm => by omega⟩ h1
end Go.Proofs.Ytmgbaegdkjcagaa

namespace Go.Proofs.Ytmgbaegdkjcagaa
open Go.Eng
set_option maxRecDepth 20000
attribute [local irreducible] AG CallA CallT AWp PCall ACall AgC

theorem trOk_slots {t : Tr} (h : trOk t = true) : ∀ e ∈ t.exits, e.slots.length ≤ 20 := fun e he => by
  obtain ⟨j, hj, rfl⟩ := List.getElem_of_mem he
  exact (exOk_at h (List.getElem?_eq_getElem hj)).2
theorem readsV_len {t : Tr} {i : Ins} {b : Bool} (h : ∀ e ∈ t.exits, e.slots.length ≤ 20) : (readsV t i b).length ≤ 80 := by
  have h1 := readsC_len (i := i) (exit := b) h (flds i.op) 4 (by simp; omega)
  have h2 := flds_len i.op
  rw [List.take_of_length_le h2] at h1
  exact h1

theorem invariant_spec (t : Tr) : PCall Try.prog 26 [dTr t] fun r => r = .tup [dIs (if trOk t then nI (invV t) else []), dI (if trOk t then 0 else 1)] := by 
  refine pcall_of Try.func26 rfl rfl Try.ntmps26 (rs := [.tmp 2, .tmp 3]) (tys := [26, 36]) rfl rfl (by simp) ?_
  (refine awp_sr fun KK hKK => ?_; simp [go_sem]; ((repeat' (first|(refine ag_x ?_;simp [go_sem])|intro _|refine And.intro ?_ ?_|(apply hKK;clear hKK KK)));all_goals first|refine Hold.mk ?_|omega|with_reducible assumption|(simp only [InR] at *;omega)|skip))
  refine awp_frzbox 1 rfl rfl ?_
  simp only [go_sem]
  refine awp_seq_k fun K1 hK1 => ?_
  (refine awp_sr fun KK hKK => ?_; simp [go_sem]; ((repeat' (first|(refine ag_x ?_;simp [go_sem])|intro _|refine And.intro ?_ ?_|(apply hKK;clear hKK KK)));all_goals first|refine Hold.mk ?_|omega|with_reducible assumption|(simp only [InR] at *;omega)|skip))
  ((try refine CallT.toA ?_); refine callT_m (by first | exact .inl ⟨rfl, rfl⟩ | exact .inr rfl) (by simp [go_sem]) ?_; intro args ha; simp [go_sem] at ha; subst ha; refine ⟨_, (check_spec _), ?_⟩; rintro _ rfl; simp [go_sem]; ((repeat' (first|(refine ag_x ?_;simp [go_sem])|intro _|refine And.intro ?_ ?_|(apply hKK;clear hKK KK)));all_goals first|refine Hold.mk ?_|omega|with_reducible assumption|(simp only [InR] at *;omega)|skip))
  (refine awp_if fun T F hT hF => ?_; simp [go_sem]; refine BR.intro (fun h2 => hT ?_) (fun h2 => hF ?_); all_goals clear hT hF T F; try simp at h2) 
  · (refine awp_sr fun KK hKK => ?_; simp [go_sem]; ((repeat' (first|(refine ag_x ?_;simp [go_sem])|intro _|refine And.intro ?_ ?_|(apply hKK;clear hKK KK)));all_goals first|refine Hold.mk ?_|omega|with_reducible assumption|(simp only [InR] at *;omega)|skip))
    (refine awp_ret ?_; simp [go_sem, h2])
  · refine awp_skip ?_
    refine hK1 _ ?_; clear hK1
    have hok : trOk t = true := h2
    obtain ⟨_, _, hcl, _⟩ := trOk_regs hok
    have hsl := trOk_slots hok
    (refine awp_sr fun KK hKK => ?_; simp [go_sem]; ((repeat' (first|(refine ag_x ?_;simp [go_sem])|intro _|refine And.intro ?_ ?_|(apply hKK;clear hKK KK)));all_goals first|refine Hold.mk ?_|omega|with_reducible assumption|(simp only [InR] at *;omega)|skip))
    rename_i go
    refine awp_nilbox 33 3 1 0 (sb := 4) rfl rfl (by decide) fun gr => ?_
    simp only [go_sem, List.set]
    refine awp_seq_k fun K3 hK3 => ?_
    (refine awp_sr fun KK hKK => ?_; simp [go_sem]; ((repeat' (first|(refine ag_x ?_;simp [go_sem])|intro _|refine And.intro ?_ ?_|(apply hKK;clear hKK KK)));all_goals first|refine Hold.mk ?_|omega|with_reducible assumption|(simp only [InR] at *;omega)|skip))
    refine awp_block ?_
    refine awp_loop (σ := Nat × List Nat × Nat) (fun x => ⟨[(1, .rd [dI t.regs, .sl 6 (t.code.map cIns), .sl 2 (t.exits.map cExi)]), (4, .ptr 4 go 0), (12, .sl 6 (t.code.map cIns)), (13, dI t.code.length), (14, dI x.1)],
      [(4, go, .box [.own 33 x.2.2]), (33, x.2.2, .row 3 1 ((nI x.2.1).map cI))]⟩) (fun x => x.1 ≤ t.code.length ∧ x.2.1.length ≤ x.1 ∧ invFrom t (t.code.drop x.1) x.1 x.2.1 = invV t) (fun x => t.code.length - x.1) (0, [], gr) ?_ ?_ ?_
    · (refine cov_of ?_ ?_ <;> simp [go_sem, nI])
    · simp [invV]
    rintro ⟨k, out, gr⟩ ⟨hk, hol, hinv⟩
    simp only at hk hol hinv
    have hnl : (nI out).length = out.length := by simp [nI]
    (refine awp_sr fun KK hKK => ?_; simp [go_sem]; ((repeat' (first|(refine ag_x ?_;simp [go_sem])|intro _|refine And.intro ?_ ?_|(apply hKK;clear hKK KK)));all_goals first|refine Hold.mk ?_|omega|with_reducible assumption|(simp only [InR] at *;omega)|skip))
    refine awp_seq_k fun K4 hK4 => ?_
    (refine awp_if fun T F hT hF => ?_; simp [go_sem]; refine BR.intro (fun h5 => hT ?_) (fun h5 => hF ?_); all_goals clear hT hF T F; try simp at h5) 
    · refine awp_skip ?_
      refine hK4 _ ?_; clear hK4
      obtain ⟨x, hx⟩ : ∃ x, t.code[k]? = some x := ⟨_, List.getElem?_eq_getElem (by omega)⟩
      rw [drop_at hx] at hinv
      simp only [invFrom] at hinv
      refine awp_seq_k fun K6 hK6 => ?_
      have tl6 : ∀ S' gr', Cov S' ⟨[(1, .rd [dI t.regs, .sl 6 (t.code.map cIns), .sl 2 (t.exits.map cExi)]), (4, .ptr 4 go 0), (12, .sl 6 (t.code.map cIns)), (13, dI t.code.length), (14, dI k)],
          [(4, go, .box [.own 33 gr']), (33, gr', .row 3 1 ((nI (invStep t out k x)).map cI))]⟩ → K6 S' := fun S' gr' hS => by
        refine hK6 _ ?_; clear hK6
        refine awp_cov hS ?_; clear hS
        (refine awp_r fun KK hKK => ?_; simp [go_sem]; ((repeat' (first|(refine ag_x ?_;simp [go_sem])|intro _|refine And.intro ?_ ?_|(apply hKK;clear hKK KK)));all_goals first|refine Hold.mk ?_|omega|with_reducible assumption|(simp only [InR] at *;omega)|skip))
        refine ⟨(k + 1, invStep t out k x, gr'), ?_, ⟨by simp; omega, ?_, hinv⟩, by simp; omega⟩
        · (refine cov_of ?_ ?_ <;> simp [go_sem])
        · simp only [invStep]; split <;> (try simp) <;> omega
      clear hK6
      refine awp_block ?_
      (refine awp_sr fun KK hKK => ?_; simp [go_sem, hx]; ((repeat' (first|(refine ag_x ?_;simp [go_sem, hx])|intro _|refine And.intro ?_ ?_|(apply hKK;clear hKK KK)));all_goals first|refine Hold.mk ?_|omega|with_reducible assumption|(simp only [InR] at *;omega)|skip))
      rename_i g6
      refine awp_frzbox 6 rfl rfl ?_
      simp only [go_sem]
      refine awp_seq_k fun K7 hK7 => ?_
      (refine awp_sr fun KK hKK => ?_; simp [go_sem]; ((repeat' (first|(refine ag_x ?_;simp [go_sem])|intro _|refine And.intro ?_ ?_|(apply hKK;clear hKK KK)));all_goals first|refine Hold.mk ?_|omega|with_reducible assumption|(simp only [InR] at *;omega)|skip))
      ((try refine CallT.toA ?_); refine callT_m (by first | exact .inl ⟨rfl, rfl⟩ | exact .inr rfl) (by simp [go_sem]) ?_; intro args ha; simp [go_sem] at ha; subst ha; refine ⟨_, (writes_spec _), ?_⟩; rintro _ rfl; simp [go_sem]; ((repeat' (first|(refine ag_x ?_;simp [go_sem])|intro _|refine And.intro ?_ ?_|(apply hKK;clear hKK KK)));all_goals first|refine Hold.mk ?_|omega|with_reducible assumption|(simp only [InR] at *;omega)|skip))
      (refine awp_if fun T F hT hF => ?_; simp [go_sem]; refine BR.intro (fun h8 => hT ?_) (fun h8 => hF ?_); all_goals clear hT hF T F; try simp at h8) 
      · refine awp_exit ?_
        simp only [go_sem]
        refine tl6 _ gr ?_
        have e : invStep t out k x = out := by unfold invStep; rw [if_neg (by rintro ⟨a, _⟩; omega)]
        rw [e]
        (refine cov_of ?_ ?_ <;> simp [go_sem])
      · refine awp_skip ?_
        refine hK7 _ ?_; clear hK7
        (refine awp_sr fun KK hKK => ?_; simp [go_sem]; ((repeat' (first|(refine ag_x ?_;simp [go_sem])|intro _|refine And.intro ?_ ?_|(apply hKK;clear hKK KK)));all_goals first|refine Hold.mk ?_|omega|with_reducible assumption|(simp only [InR] at *;omega)|skip))
        ((try refine CallT.toA ?_); refine callT_m (by first | exact .inl ⟨rfl, rfl⟩ | exact .inr rfl) (by simp [go_sem]) ?_; intro args ha; simp [go_sem] at ha; subst ha; refine ⟨_, (reads_spec t x false (fun h => by cases h) hsl), ?_⟩; rintro _ rfl; simp [go_sem]; ((repeat' (first|(refine ag_x ?_;simp [go_sem])|intro _|refine And.intro ?_ ?_|(apply hKK;clear hKK KK)));all_goals first|refine Hold.mk ?_|omega|with_reducible assumption|(simp only [InR] at *;omega)|skip))
        ((try refine CallT.toA ?_); refine callT_f (by first | exact .inl ⟨rfl, rfl⟩ | exact .inr rfl) ?_; intro args ha; simp [go_sem] at ha; subst ha; refine ⟨_, (containsF_spec (readsV t x false) _ 52 _ (varies t.code out) (.inr rfl) (fun r _ => vary_spec t out r (by omega) (by omega)) (by have := readsV_len (i := x) (b := false) hsl; omega)), ?_⟩; rintro _ rfl; refine ⟨rfl, ?_⟩; simp [go_sem]; ((repeat' (first|(refine ag_x ?_;simp [go_sem])|intro _|refine And.intro ?_ ?_|(apply hKK;clear hKK KK)));all_goals first|refine Hold.mk ?_|omega|with_reducible assumption|(simp only [InR] at *;omega)|skip))
        (refine awp_sr fun KK hKK => ?_; simp [go_sem]; ((repeat' (first|(refine ag_x ?_;simp [go_sem])|intro _|refine And.intro ?_ ?_|(apply hKK;clear hKK KK)));all_goals first|refine Hold.mk ?_|omega|with_reducible assumption|(simp only [InR] at *;omega)|skip))
        (refine awp_if fun T F hT hF => ?_; simp [go_sem]; refine BR.intro (fun h9 => hT ?_) (fun h9 => hF ?_); all_goals clear hT hF T F; try simp at h9) 
        · (refine awp_r fun KK hKK => ?_; simp [go_sem]; ((repeat' (first|(refine ag_x ?_;simp [go_sem])|intro _|refine And.intro ?_ ?_|(apply hKK;clear hKK KK)));all_goals first|refine Hold.mk ?_|omega|with_reducible assumption|(simp only [InR] at *;omega)|skip))
          rename_i ga gr2
          refine tl6 _ gr2 ?_
          have e : invStep t out k x = out ++ [k] := by unfold invStep; rw [if_pos ⟨by omega, by rw [List.any_eq_false]; intro r hr; simpa using h9 r hr⟩]
          rw [e]
          (refine cov_of ?_ ?_ <;> simp [go_sem, nI])
        · refine awp_skip ?_
          refine tl6 _ gr ?_
          have e : invStep t out k x = out := by
            unfold invStep
            rw [if_neg]
            rintro ⟨_, hf⟩
            rw [List.any_eq_false] at hf
            obtain ⟨r, hr, hv⟩ := h9
            exact hf r hr hv
          rw [e]
          (refine cov_of ?_ ?_ <;> simp [go_sem])
    · refine awp_exit ?_
      simp only [go_sem]
      refine hK3 _ ?_; clear hK3
      have : k = t.code.length := by omega
      subst this
      rw [List.drop_length] at hinv
      simp only [invFrom] at hinv
      subst hinv
      (refine awp_sr fun KK hKK => ?_; simp [go_sem]; ((repeat' (first|(refine ag_x ?_;simp [go_sem])|intro _|refine And.intro ?_ ?_|(apply hKK;clear hKK KK)));all_goals first|refine Hold.mk ?_|omega|with_reducible assumption|(simp only [InR] at *;omega)|skip))
      (refine awp_ret ?_; simp [go_sem, hok])
end Go.Proofs.Ytmgbaegdkjcagaa

namespace Go.Proofs.Ytmgbaegdkjcagaa
open Go.Eng
set_option maxRecDepth 20000
attribute [local irreducible] AG CallA CallT AWp PCall ACall AgC

set_option maxHeartbeats 4000000 in
theorem own_spec (t : Tr) (hc : t.code.length ≤ 500) (he : t.exits.length ≤ 100) (hs : ∀ x ∈ t.exits, x.slots.length ≤ 2000) : PCall Try.prog 27 [dTr t] fun r => r = dTr t := by 
  refine pcall_of Try.func27 rfl rfl Try.ntmps27 (rs := [.cell 2 32]) (tys := [32]) rfl rfl (by simp) ?_
  (refine awp_sr fun KK hKK => ?_; simp [go_sem]; ((repeat' (first|(refine ag_x ?_;simp [go_sem])|intro _|refine And.intro ?_ ?_|(apply hKK;clear hKK KK)));all_goals first|refine Hold.mk ?_|omega|with_reducible assumption|(simp only [InR] at *;omega)|skip))
  rename_i g1 g2
  refine awp_frzbox 1 rfl rfl ?_
  simp only [go_sem]
  refine awp_seq_k fun K1 hK1 => ?_
  have tl1 : ∀ S' g3 gc, Cov S' ⟨[(1, .rd [dI t.regs, .sl 6 (t.code.map cIns), .sl 2 (t.exits.map cExi)]), (2, .ptr 2 g2 0), (3, .ptr 3 g3 0)], [(2, g2, .box [dI 0, .v (.slice none 0 0), .v (.slice none 0 0)]),
      (3, g3, .box [dI t.regs, .own 7 gc, .v (.slice none 0 0)]), (7, gc, .row 57 6 (t.code.map cIns))]⟩ → K1 S' := fun S' g3 gc hS => by
    refine hK1 _ ?_; clear hK1
    refine awp_cov hS ?_; clear hS
    refine awp_nilbox 37 72 2 2 (sb := 3) rfl rfl (by decide) fun g5 => ?_
    simp only [List.set, go_sem]
    refine awp_seq_k fun K5 hK5 => ?_
    (refine awp_sr fun KK hKK => ?_; simp [go_sem]; ((repeat' (first|(refine ag_x ?_;simp [go_sem])|intro _|refine And.intro ?_ ?_|(apply hKK;clear hKK KK)));all_goals first|refine Hold.mk ?_|omega|with_reducible assumption|(simp only [InR] at *;omega)|skip))
    refine awp_block ?_
    refine awp_loop (σ := Nat × Nat) (fun x => ⟨[(1, .rd [dI t.regs, .sl 6 (t.code.map cIns), .sl 2 (t.exits.map cExi)]), (2, .ptr 2 g2 0), (3, .ptr 3 g3 0), (4, dI x.1)], [(2, g2, .box [dI 0, .v (.slice none 0 0), .v (.slice none 0 0)]),
      (3, g3, .box [dI t.regs, .own 7 gc, .own 37 x.2]), (7, gc, .row 57 6 (t.code.map cIns)), (37, x.2, .row 72 2 ((t.exits.take x.1).map cExi))]⟩) (fun x => x.1 ≤ t.exits.length) (fun x => t.exits.length - x.1) (0, g5) ?_ ?_ ?_
    · (refine cov_of ?_ ?_ <;> simp [go_sem])
    · simp
    rintro ⟨i, gg⟩ hx'
    simp at hx'
    refine awp_seq_k fun K6 hK6 => ?_
    (refine awp_sr fun KK hKK => ?_; simp [go_sem]; ((repeat' (first|(refine ag_x ?_;simp [go_sem])|intro _|refine And.intro ?_ ?_|(apply hKK;clear hKK KK)));all_goals first|refine Hold.mk ?_|omega|with_reducible assumption|(simp only [InR] at *;omega)|skip))
    (refine awp_if fun T F hT hF => ?_; simp [go_sem]; refine BR.intro (fun h7 => hT ?_) (fun h7 => hF ?_); all_goals clear hT hF T F; try simp at h7)
    · refine awp_skip ?_
      refine hK6 _ ?_; clear hK6
      have hi : i < t.exits.length := by simpa using h7
      obtain ⟨x, hx⟩ : ∃ x, t.exits[i]? = some x := ⟨_, List.getElem?_eq_getElem hi⟩
      have hxs := hs x (List.mem_of_getElem? hx)
      refine awp_seq_k fun K8 hK8 => ?_
      refine awp_block ?_
      ((refine awp_d (.qs [0, 2, 4, 9, 11, 1, 3, 5, 6, 7, 10, 12, 13, 14] (.kp 8 (.kp 15 (.qs [16] (.kp 17 (.one 18 (.qs [19] (.one 20 (.nil))))))))) (by kernel_rfl) ?_ ?_ ?_ ?_); (kernel_rfl); (exact (by decide +kernel)); (kernel_rfl); intro KK hKK; ((repeat' (first|(refine ag_x ?_;simp [go_sem, hx])|refine adr_nil ?_|refine adr_two ?_ ?_|refine adr_kp2 ?_ ?_|((first|refine adr_qs fun KK hKK=>?_|refine adr_y fun KK hKK=>?_);simp [go_sem, hx])|intro _|refine And.intro ?_ ?_|(apply hKK;clear hKK KK)));all_goals first|refine Hold.mk ?_|omega|with_reducible assumption|(simp only [InR] at *;omega)|skip))
      refine hK8 _ ?_; clear hK8
      (refine awp_r fun KK hKK => ?_; simp [go_sem]; ((repeat' (first|(refine ag_x ?_;simp [go_sem])|intro _|refine And.intro ?_ ?_|(apply hKK;clear hKK KK)));all_goals first|refine Hold.mk ?_|omega|with_reducible assumption|(simp only [InR] at *;omega)|skip))
      have ht : t.exits.take (i + 1) = t.exits.take i ++ [x] := by rw [List.take_add_one, hx]; rfl
      refine ⟨(i + 1, ‹_›), ?_, ?_, ?_⟩
      · (refine cov_of ?_ ?_ <;> simp [go_sem, ht, hx])
      · exact hi
      · simp; omega
    · refine awp_exit ?_
      simp only [go_sem]
      refine hK5 _ ?_; clear hK5
      have hil : i = t.exits.length := by omega
      subst hil
      simp only [← List.map_take, List.take_length]
      (refine awp_sr fun KK hKK => ?_; simp [go_sem]; ((repeat' (first|(refine ag_x ?_;simp [go_sem])|intro _|refine And.intro ?_ ?_|(apply hKK;clear hKK KK)));all_goals first|refine Hold.mk ?_|omega|with_reducible assumption|(simp only [InR] at *;omega)|skip))
      (refine awp_ret ?_; simp [go_sem])
  ((refine awp_d (.qs [0, 3, 1, 4] (.kp2 2 (.kp2 5 (.qs [6] (.kp 7 (.one 8 (.nil)))) 7 (.kp 5 (.qs [6] (.one 8 (.nil))))) 7 (.kp 2 (.kp 5 (.qs [6] (.one 8 (.nil))))))) (by kernel_rfl) ?_ ?_ ?_ ?_); (kernel_rfl); (exact (by decide +kernel)); (kernel_rfl); intro KK hKK; ((repeat' (first|(refine ag_x ?_;simp [go_sem])|refine adr_nil ?_|refine adr_two ?_ ?_|refine adr_kp2 ?_ ?_|((first|refine adr_qs fun KK hKK=>?_|refine adr_y fun KK hKK=>?_);simp [go_sem])|intro _|refine And.intro ?_ ?_|(apply hKK;clear hKK KK)));all_goals first|refine Hold.mk ?_|omega|with_reducible assumption|(simp only [InR] at *;omega)|skip))
  all_goals exact tl1 _ _ _ (cov_of ⟨rfl, rfl, rfl, trivial⟩ ⟨rfl, rfl, rfl, trivial⟩)
end Go.Proofs.Ytmgbaegdkjcagaa
