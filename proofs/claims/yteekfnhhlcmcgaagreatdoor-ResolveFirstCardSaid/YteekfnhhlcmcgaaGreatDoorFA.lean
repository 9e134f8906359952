/- Part of a proof: see the last text. -/
import Derived.Test.YteekfnhhlcmcgaaGreatDoorFX
import Derived.Test.YteekfnhhlcmcgaaGreatDoorG06
import Derived.Test.YteekfnhhlcmcgaaGreatDoorG04
import Derived.Lib.LastIndexLaws
set_option linter.unusedVariables false
set_option linter.unusedSimpArgs false
namespace Go.Proofs.YteekfnhhlcmcgaaGreatDoor
open Go.Eng Go.Wh Go.Ver Go.RowKit Go.Lk
set_option maxRecDepth 20000
attribute [local irreducible] AG CallA CallT AWp PCall ACall AgC
theorem scontains_spec (s p : List UInt8) (hl : s.length < 4294967281) : PCall Tryz.prog 164 [dS s, dS p] fun r => r = dB (Lib.contains s p) := by
 refine pcall_below ⟨_, Tryz.func164, rfl, rfl⟩ fun C w us hc hg hr => ?_
 have hg : glOk w := hg
 obtain rfl := repL_v (us := [.string ⟨s.toArray⟩, .string ⟨p.toArray⟩]) hr
 obtain ⟨m, hm⟩ := hg.2
 refine (Tryz.strings_Contains ⟨s.toArray⟩ ⟨p.toArray⟩ m w (by simpa [ByteArray.size] using hl) hm).mono ?_
 rintro e w' ⟨rfl, rfl⟩
 exact ⟨_, _, rfl, rfl, .v _, Below.refl _ _⟩
def nmL : List UInt8 := [97, 98, 99, 100, 101, 102, 103, 104, 105, 106, 107, 108, 109, 110, 111, 112, 113, 114, 115, 116, 117, 118, 119, 120, 121, 122, 48, 49, 50, 51, 52, 53, 54, 55, 56, 57, 95, 45]
theorem nmL_nm (c : UInt8) : nmL.contains c = nmC c := by
 have h := UInt8.toNat_lt c
 unfold nmC isL isD nmL
 refine Bool.eq_iff_iff.2 ?_
 simp only [List.contains_iff_mem, List.mem_cons, List.mem_nil_iff, or_false, Bool.and_eq_true, Bool.or_eq_true, decide_eq_true_eq, ← UInt8.toNat_inj]
 simp
 omega
theorem trim_nm (l : List UInt8) : (Lib.trimS l nmL = []) ↔ l.all nmC = true := by
 rw [trimS_nil]
 simp only [nmL_nm]
theorem contains_L (c : UInt8) : Lib.contains abcL [c] = isL c := by
 unfold Lib.contains
 rw [Lib.index_one, ← abcL_isL, Lib.contains_iff_indexByte]
theorem risName_spec (s : List UInt8) (hl : s.length ≤ 1000000000) : PCall Tryz.prog 121 [dS s] fun r => r = dB (nameV s) := by 
 refine pcall_of Tryz.func121 rfl rfl Tryz.ntmps121 (rs := [.tmp 2]) (tys := [4]) rfl rfl (by simp) ?_
 have T1 := trimS_spec s nmL (by omega) (by decide) (by decide)
 have ht := trim_nm s
 cases s with
 | nil =>
  (refine awp_sr fun Y Yh => ?_; simp [go_sem]; ((repeat' (first|(refine ag_x ?_;simp [go_sem])|intro _|apply And.intro|(apply Yh;clear Yh Y)));all_goals first|apply Hold.mk|omega|assumption|skip))
  (refine awp_sr fun Y Yh => ?_; simp [go_sem]; ((repeat' (first|(refine ag_false (by simp [go_sem, undef]) (by simp [go_sem]) ?_;simp [go_sem])|intro _|apply And.intro|(apply Yh;clear Yh Y)));all_goals first|apply Hold.mk|omega|assumption|skip))
  (refine awp_ret ?_; simp [go_sem, nameV])
 | cons c r =>
  have C1 := scontains_spec abcL [c] (by decide)
  rw [contains_L] at C1
  have e1 : ({ data := (c :: r).toArray } : ByteArray).extract 0 1 = { data := [c].toArray } := by apply ByteArray.ext; simp
  have h1 : (1 : Int) ≤ (r.length : Int) + 1 := by omega
  by_cases h2 : r.length < 20
  ·have h2' : ((r.length : Int) + 1 ≤ 20) := by omega
   generalize Lib.trimS (c :: r) nmL = a at *
   by_cases h3 : a = []
   ·subst h3
    have h4 := ht.1 rfl
    (refine awp_sr fun Y Yh => ?_; simp [go_sem]; ((repeat' (first|(refine ag_x ?_;simp [go_sem])|intro _|apply And.intro|(apply Yh;clear Yh Y)));all_goals first|apply Hold.mk|omega|assumption|skip))
    (refine awp_sr fun Y Yh => ?_; simp [go_sem, h1, h2']; ((repeat' (first|(refine ag_x ?_;simp [go_sem, h1, h2'])|intro _|apply And.intro|(apply Yh;clear Yh Y)));all_goals first|apply Hold.mk|omega|assumption|skip))
    (refine agc_f (dS []) (.inl ⟨rfl,rfl⟩) ?_ rfl ?_; (intro hc args ha; simp [go_sem] at ha; subst ha; exact T1); simp [go_sem, h1, h2']; ((repeat' (first|(refine ag_x ?_;simp [go_sem, h1, h2'])|intro _|apply And.intro|(apply Yh;clear Yh Y)));all_goals first|apply Hold.mk|omega|assumption|skip))
    (refine agc_f (dB (isL c)) (.inl ⟨rfl,rfl⟩) ?_ rfl ?_; (intro hc args ha; simp [go_sem] at ha; subst ha; exact (by rw [e1]; exact C1)); simp [go_sem, h1, h2']; ((repeat' (first|(refine ag_x ?_;simp [go_sem, h1, h2'])|intro _|apply And.intro|(apply Yh;clear Yh Y)));all_goals first|apply Hold.mk|omega|assumption|skip))
    (refine awp_ret ?_; simp [go_sem])
    simp only [List.all_cons, Bool.and_eq_true] at h4
    simp [nameV, h4.2, h2]
   ·have h4 : ¬ ((c :: r).all nmC = true) := fun q => h3 (ht.2 q)
    have h5 : nameV (c :: r) = false := by
     rw [← Bool.not_eq_true]
     intro q
     simp only [nameV, Bool.and_eq_true] at q
     exact h4 (by rw [List.all_cons, q.1.2]; simp [nmC, q.1.1])
    (refine awp_sr fun Y Yh => ?_; simp [go_sem]; ((repeat' (first|(refine ag_x ?_;simp [go_sem])|intro _|apply And.intro|(apply Yh;clear Yh Y)));all_goals first|apply Hold.mk|omega|assumption|skip))
    (refine awp_sr fun Y Yh => ?_; simp [go_sem, h1, h2']; ((repeat' (first|(refine ag_x ?_;simp [go_sem, h1, h2'])|intro _|apply And.intro|(apply Yh;clear Yh Y)));all_goals first|apply Hold.mk|omega|assumption|skip))
    (refine agc_f (dS a) (.inl ⟨rfl,rfl⟩) ?_ rfl ?_; (intro hc args ha; simp [go_sem] at ha; subst ha; exact T1); simp [go_sem, h1, h2', h3]; ((repeat' (first|(refine ag_false ?_ ?_ ?_;(focus (simp [go_sem, undef, h1, h2', h3];done));(focus (simp [go_sem];done));simp [go_sem, h1, h2', h3])|(refine ag_x ?_;simp [go_sem, undef, h1, h2', h3])|intro _|apply And.intro|(apply Yh;clear Yh Y)));all_goals first|apply Hold.mk|omega|assumption|skip))
    (refine awp_ret ?_; simp [go_sem, h5])
  ·have h2' : ¬ ((r.length : Int) + 1 ≤ 20) := by omega
   have h5 : nameV (c :: r) = false := by simp [nameV, h2]
   (refine awp_sr fun Y Yh => ?_; simp [go_sem]; ((repeat' (first|(refine ag_x ?_;simp [go_sem])|intro _|apply And.intro|(apply Yh;clear Yh Y)));all_goals first|apply Hold.mk|omega|assumption|skip))
   (refine awp_sr fun Y Yh => ?_; simp [go_sem, h1, h2']; ((repeat' (first|(refine ag_false ?_ ?_ ?_;(focus (simp [go_sem, undef, h1, h2'];done));(focus (simp [go_sem];done));simp [go_sem, h1, h2'])|(refine ag_x ?_;simp [go_sem, undef, h1, h2'])|intro _|apply And.intro|(apply Yh;clear Yh Y)));all_goals first|apply Hold.mk|omega|assumption|skip))
   (refine awp_ret ?_; simp [go_sem, h5])
theorem cut_len (s p : Bs) : (Lib.cut s p).1.length ≤ s.length ∧ (Lib.cut s p).2.1.length ≤ s.length := by
 rcases cut_cases s p with ⟨a, r, h, e⟩ | ⟨h, _⟩
 ·rw [h]
  have := congrArg List.length e
  simp only [List.length_append] at this
  simp only
  omega
 ·rw [h]; simp
end Go.Proofs.YteekfnhhlcmcgaaGreatDoor
namespace Go.Eng
set_option linter.unusedSectionVars false
variable {P : Program} [HasGlob P] {n : Nat} {S : St} {Q : Exit → St → Prop}
end Go.Eng
namespace Go.Proofs.YteekfnhhlcmcgaaGreatDoor
open Go.Eng Go.Wh Go.Ver Go.RowKit Go.Lk
set_option maxRecDepth 20000
attribute [local irreducible] AG CallA CallT AWp PCall ACall AgC
end Go.Proofs.YteekfnhhlcmcgaaGreatDoor
namespace Go.Lk
open Go.Lib Go.Wh Go.Ver
/-! a whole text: its lines, where they begin, what reading all of them gives -/
def goL : PS → Nat → List Bs → Option PS × Nat
 | p, i, [] => (some p, i)
 | p, i, [l] => if l = [] then (some p, i) else (none, i + 1)
 | p, i, l :: m :: r => match lineV p l with
  | some q => goL q (i + 1) (m :: r)
  | none => (none, i + 1)
structure SzOk (p : PS) (k m : Nat) : Prop where
 nl : p.needs.length = p.picks.length
 pl : p.picks.length ≤ k
 wl : p.wish.length ≤ k
 rl : ∀ r ∈ p.needs, r.length ≤ k
 ps : ∀ x ∈ p.picks, x.1.length ≤ m ∧ x.2.length ≤ m
 ns : ∀ r ∈ p.needs, ∀ x ∈ r, x.1.length ≤ m ∧ x.2.length ≤ m
 ws : ∀ x ∈ p.wish, x.1.length ≤ m ∧ x.2.length ≤ m
theorem cut_len (s sep : Bs) : (cut s sep).1.length ≤ s.length ∧ (cut s sep).2.1.length ≤ s.length := by
 rcases cut_cases s sep with ⟨a, r, h1, h2⟩ | ⟨h1, _⟩
 ·rw [h1]
  have := congrArg List.length h2
  simp at this
  simp; omega
 ·rw [h1]; simp
/-! a lock's text -/
def wantL (ind : Bs) (n : Prs) : Bs := if n.2 = [] then ind ++ (n.1 ++ [10]) else ind ++ (n.1 ++ ([32, 40] ++ (n.2 ++ [41, 10])))
def pickL (p : Prs) : Bs := [32, 32] ++ (p.1 ++ ([32, 40] ++ (p.2 ++ [41, 10])))
def gemsH : Bs := [71, 69, 77, 83, 10]
def wishH : Bs := [10, 87, 73, 83, 72, 10]
def ndsT (ind : Bs) (l : List Prs) (k : Nat) : Bs := (l.take k).flatMap (wantL ind)
def pksT (L : Lck) : Nat → Bs
 | 0 => gemsH
 | i + 1 => pksT L i ++ (pickL (L.1.getD i ([], [])) ++ ndsT pre4 (L.2.1.getD i []) (L.2.1.getD i []).length)
def headT (L : Lck) : Bs := pksT L L.1.length ++ (wishH ++ (ndsT pre2 L.2.2 L.2.2.length ++ [10]))
def textV (L : Lck) : Bs := headT L ++ (preSum ++ (itoa (sumV (headT L) (headT L).length : Nat) ++ [10]))
/-! a lock's text is read as the lock -/
theorem readV_ne {v : Bs} (h : (readV v).isSome = true) : v ≠ [] := fun q => by
 subst q
 have : readV [] = none := by decide
 rw [this] at h; cases h
theorem name_nm {g : Bs} (h : nameV g = true) : g ≠ [] ∧ g.all nmC = true ∧ g.length ≤ 20 := by
 cases g with
 | nil => simp [nameV] at h
 | cons c r =>
  simp only [nameV, Bool.and_eq_true, decide_eq_true_eq] at h
  refine ⟨by simp, ?_, by simp; omega⟩
  simp only [List.all_cons, Bool.and_eq_true]
  refine ⟨?_, h.1.2⟩
  unfold nmC; simp [h.1.1]
def Reads (p : PS) (t : Bs) (q : PS) : Prop := ∀ i s, ∃ j, goL p i (dots 10 (t ++ s)) = goL q j (dots 10 s)
theorem Reads.nil (p : PS) : Reads p [] p := fun i s => ⟨i, rfl⟩
theorem Reads.trans {p q r : PS} {t u : Bs} (h : Reads p t q) (k : Reads q u r) : Reads p (t ++ u) r := fun i s => by
 obtain ⟨j, hj⟩ := h i (u ++ s)
 obtain ⟨m, hm⟩ := k j s
 exact ⟨m, by rw [List.append_assoc, hj, hm]⟩
theorem Reads.line {p q : PS} {l : Bs} (h : 10 ∉ l) (hq : lineV p l = some q) : Reads p (l ++ [10]) q := fun i s => by
 refine ⟨i + 1, ?_⟩
 rw [List.append_assoc, show ([10] : Bs) ++ s = 10 :: s from rfl, dots_app _ h]
 obtain ⟨m, r, hm⟩ : ∃ m r, dots 10 s = m :: r := by
  cases hd : dots 10 s with
  | nil => exact absurd hd (dots_ne 10 s)
  | cons m r => exact ⟨m, r, rfl⟩
 rw [hm]
 conv => lhs; unfold goL
 rw [hq]
/-! sources: gems, versions, needs -/
abbrev Vrs := Bs × List Prs
abbrev Gm := Bs × List Vrs
abbrev Src := List Gm
def upTo (f : Nat → Bool) : Nat → Bool
 | 0 => true
 | n + 1 => upTo f n && f n
theorem upTo_bad {f : Nat → Bool} {n : Nat} (h : upTo f n = false) : ∀ m, n ≤ m → upTo f m = false
 | 0, hm => by
  have : n = 0 := by omega
  subst this; exact h
 | m + 1, hm => by
  by_cases e : n = m + 1
  ·subst e; exact h
  ·rw [upTo, upTo_bad h m (by omega)]; rfl
theorem upTo_at {f : Nat → Bool} : ∀ {n i : Nat}, upTo f n = true → i < n → f i = true
 | 0, i, _, h => absurd h (by omega)
 | n + 1, i, h, hi => by
  rw [upTo, Bool.and_eq_true] at h
  by_cases e : i = n
  ·subst e; exact h.2
  ·exact upTo_at h.1 (by omega)
theorem upTo_of {f : Nat → Bool} : ∀ {n : Nat}, (∀ i, i < n → f i = true) → upTo f n = true
 | 0, _ => rfl
 | n + 1, h => by rw [upTo, upTo_of (fun i hi => h i (by omega)), h n (by omega)]; rfl
theorem upTo_step {f : Nat → Bool} {n : Nat} (h : upTo f n = true) : upTo f (n + 1) = f n := by rw [upTo, h]; rfl
def apartAt (l : List Prs) (x : Prs) (k : Nat) : Bool := match l[k]? with
 | some y => decide (y.1 ≠ x.1)
 | none => true
def nuAt (l : List Prs) (i : Nat) : Bool := match l[i]? with
 | some x => nameV x.1 && (condsV x.2).isSome && upTo (apartAt l x) i
 | none => true
def nuV (most : Nat) (l : List Prs) : Bool := decide (l.length ≤ most) && upTo (nuAt l) l.length
theorem apart_step {l : List Prs} {x y : Prs} {k : Nat} (h : l[k]? = some y) (ht : upTo (apartAt l x) k = true) : upTo (apartAt l x) (k + 1) = decide (y.1 ≠ x.1) := by
 rw [upTo_step ht]; unfold apartAt; rw [h]
theorem nu_step {l : List Prs} {x : Prs} {i : Nat} (h : l[i]? = some x) (ht : upTo (nuAt l) i = true) : upTo (nuAt l) (i + 1) = (nameV x.1 && (condsV x.2).isSome && upTo (apartAt l x) i) := by
 rw [upTo_step ht]; unfold nuAt; rw [h]
def rankAt (l : List Vrs) (x : Vrs) (k : Nat) : Bool := match l[k]? with
 | some y => decide (compareP y.1 x.1 ≠ 0)
 | none => true
def vuAt (l : List Vrs) (i : Nat) : Bool := match l[i]? with
 | some x => (readV x.1).isSome && nuV 6 x.2 && upTo (rankAt l x) i
 | none => true
def vuV (l : List Vrs) : Bool := decide (l.length ≤ 12) && upTo (vuAt l) l.length
theorem rank_step {l : List Vrs} {x y : Vrs} {k : Nat} (h : l[k]? = some y) (ht : upTo (rankAt l x) k = true) : upTo (rankAt l x) (k + 1) = decide (compareP y.1 x.1 ≠ 0) := by
 rw [upTo_step ht]; unfold rankAt; rw [h]
theorem vu_step {l : List Vrs} {x : Vrs} {i : Nat} (h : l[i]? = some x) (ht : upTo (vuAt l) i = true) : upTo (vuAt l) (i + 1) = ((readV x.1).isSome && nuV 6 x.2 && upTo (rankAt l x) i) := by
 rw [upTo_step ht]; unfold vuAt; rw [h]
def suAt (s : Src) (i : Nat) : Bool := match s[i]? with
 | some g => nameV g.1 && (decide (i = 0) || (match s[i - 1]? with | some y => Op.bytesLess y.1 g.1 | none => true)) && vuV g.2
 | none => true
def suV (s : Src) : Bool := decide (s.length ≤ 15) && upTo (suAt s) s.length
theorem su_step {s : Src} {g : Gm} {i : Nat} (h : s[i]? = some g) (ht : upTo (suAt s) i = true) : upTo (suAt s) (i + 1) = (nameV g.1 && (decide (i = 0) || (match s[i - 1]? with | some y => Op.bytesLess y.1 g.1 | none => true)) && vuV g.2) := by
 rw [upTo_step ht]; unfold suAt; rw [h]
def chkV (s : Src) (w : List Prs) : Bool := suV s && nuV 8 w
/-! sizes -/
def Sz1 (x : Prs) : Prop := x.1.length ≤ 1000000 ∧ x.2.length ≤ 1000000
def SzN (l : List Prs) : Prop := l.length ≤ 1000000 ∧ ∀ x ∈ l, Sz1 x
def SzV (v : Vrs) : Prop := v.1.length ≤ 1000000 ∧ SzN v.2
def SzG (g : Gm) : Prop := g.1.length ≤ 1000000 ∧ g.2.length ≤ 1000000 ∧ ∀ v ∈ g.2, SzV v
def SzS (s : Src) : Prop := s.length ≤ 1000000 ∧ ∀ g ∈ s, SzG g
end Go.Lk
namespace Go.Proofs.YteekfnhhlcmcgaaGreatDoor
open Go.Eng Go.Wh Go.Ver Go.RowKit Go.Lk
set_option maxRecDepth 20000
attribute [local irreducible] AG CallA CallT AWp PCall ACall AgC
@[go_sem] abbrev cVr (v : Vrs) : List D := [dS v.1, dPs v.2]
@[go_sem] abbrev dVr (v : Vrs) : D := .agg [dS v.1, dPs v.2]
@[go_sem] abbrev dVrs (l : List Vrs) : D := .sl 2 (l.map cVr)
@[go_sem] abbrev cGm (g : Gm) : List D := [dS g.1, dVrs g.2]
@[go_sem] abbrev dGms (s : Src) : D := .sl 2 (s.map cGm)
@[go_sem] abbrev dSrc (s : Src) : D := .agg [dGms s]
theorem codeP_b (b : Bool) : codeP b = if b = true then 0 else 4 := rfl
set_option maxHeartbeats 8000000 in
theorem nu_spec (l : List Prs) (most : Nat) (hl : SzN l) (hm : most ≤ 1000000) : PCall Tryz.prog 107 [dPs l, dI most] fun r => r = dB (nuV most l) := by 
 refine pcall_of Tryz.func107 rfl rfl Tryz.ntmps107 (rs := [.tmp 4]) (tys := [4]) rfl rfl (by simp) ?_
 obtain ⟨hl0, hl1⟩ := hl
 have hbad := fun n (h : upTo (nuAt l) n = false) (hn : n ≤ l.length) => upTo_bad h l.length hn
 have hst := fun i x => @nu_step l x i
 have hz : upTo (nuAt l) 0 = true := rfl
 unfold nuV
 generalize upTo (nuAt l) = nt at *
 (refine awp_sr fun Y Yh => ?_; simp [go_sem]; ((repeat' (first|(refine ag_x ?_;simp [go_sem])|intro _|apply And.intro|(apply Yh;clear Yh Y)));all_goals first|apply Hold.mk|omega|assumption|skip))
 refine awp_seq_k fun K1 hK1 => ?_
 (refine awp_sr fun Y Yh => ?_; simp [go_sem]; ((repeat' (first|(refine ag_x ?_;simp [go_sem])|intro _|apply And.intro|(apply Yh;clear Yh Y)));all_goals first|apply Hold.mk|omega|assumption|skip))
 (refine awp_if fun T F hT hF => ?_; simp [go_sem]; refine BR.intro (fun h2 => hT ?_) (fun h2 => hF ?_); all_goals clear hT hF T F; try simp at h2) 
 ·have : ¬ l.length ≤ most := by omega
  (refine awp_sr fun Y Yh => ?_; simp [go_sem]; ((repeat' (first|(refine ag_x ?_;simp [go_sem])|intro _|apply And.intro|(apply Yh;clear Yh Y)));all_goals first|apply Hold.mk|omega|assumption|skip))
  (refine awp_ret ?_; simp [go_sem, this])
 ·have hle : l.length ≤ most := by omega
  refine awp_skip ?_
  refine hK1 _ ?_; clear hK1
  refine awp_seq_k fun K3 hK3 => ?_
  (refine awp_sr fun Y Yh => ?_; simp [go_sem]; ((repeat' (first|(refine ag_x ?_;simp [go_sem])|intro _|apply And.intro|(apply Yh;clear Yh Y)));all_goals first|apply Hold.mk|omega|assumption|skip))
  refine awp_block ?_
  refine awp_loop (σ := Nat) (fun i => ⟨[(0, dPs l), (1, dI most), (5, dI i)], []⟩) (fun i => i ≤ l.length ∧ nt i = true) (fun i => l.length - i) 0 ?_ ?_ ?_
  ·(refine cov_of ?_ ?_ <;> simp [go_sem])
  ·exact ⟨by omega, hz⟩
  rintro i ⟨hi, hn⟩
  refine awp_seq_k fun K4 hK4 => ?_
  (refine awp_sr fun Y Yh => ?_; simp [go_sem]; ((repeat' (first|(refine ag_x ?_;simp [go_sem])|intro _|apply And.intro|(apply Yh;clear Yh Y)));all_goals first|apply Hold.mk|omega|assumption|skip))
  (refine awp_if fun T F hT hF => ?_; simp [go_sem]; refine BR.intro (fun h5 => hT ?_) (fun h5 => hF ?_); all_goals clear hT hF T F; try simp at h5) 
  ·refine awp_skip ?_
   refine hK4 _ ?_; clear hK4
   obtain ⟨x, hx⟩ : ∃ x, l[i]? = some x := ⟨_, List.getElem?_eq_getElem (by omega)⟩
   have hxl := hl1 x (List.mem_of_getElem? hx)
   obtain ⟨hx1, hx2⟩ := hxl
   have N1 := risName_spec x.1 (by omega)
   have C1 := rCheck_spec x.2 hx2
   rw [codeP_b] at C1
   have hst1 := hst i x hx hn
   have hbad1 := fun h => hbad (i + 1) h (by omega)
   have hap := fun k y => @apart_step l x y k
   have hap0 : upTo (apartAt l x) 0 = true := rfl
   have hapb := fun n (h : upTo (apartAt l x) n = false) (hn : n ≤ i) => upTo_bad h i hn
   generalize upTo (apartAt l x) = ap at *
   generalize nameV x.1 = nb at *
   generalize (condsV x.2).isSome = cb at *
   refine awp_seq_k fun K6 hK6 => ?_
   refine awp_block ?_
   refine awp_seq_k fun K7 hK7 => ?_
   (refine awp_sr fun Y Yh => ?_; simp [go_sem, hx]; ((repeat' (first|(refine ag_x ?_;simp [go_sem, hx])|intro _|apply And.intro|(apply Yh;clear Yh Y)));all_goals first|apply Hold.mk|omega|assumption|skip))
   ((try refine CallT.toA ?_); refine callT_m (.inl ⟨rfl,rfl⟩) (by simp [go_sem]) ?_; intro args ha; simp [go_sem] at ha; subst ha; refine ⟨_, N1, ?_⟩; rintro _ rfl; simp [go_sem, hx]; ((repeat' (first|(refine ag_x ?_;simp [go_sem, hx])|intro _|apply And.intro|(apply Yh;clear Yh Y)));all_goals first|apply Hold.mk|omega|assumption|skip))
   (refine agc_f (dI (if cb = true then 0 else 4)) (.inl ⟨rfl,rfl⟩) ?_ rfl ?_; (intro hc args ha; simp [go_sem] at ha; subst ha; exact C1); simp [go_sem, hx]; ((repeat' (first|(refine ag_x ?_;simp [go_sem, hx])|intro _|apply And.intro|(apply Yh;clear Yh Y)));all_goals first|apply Hold.mk|omega|assumption|skip))
   cases nb with
   | false =>
    have hF := hbad1 (by rw [hst1]; simp)
    (refine awp_if fun T F hT hF => ?_; simp [go_sem]; refine hT ?_; clear hT hF T F)
    (refine awp_sr fun Y Yh => ?_; simp [go_sem]; ((repeat' (first|(refine ag_x ?_;simp [go_sem])|intro _|apply And.intro|(apply Yh;clear Yh Y)));all_goals first|apply Hold.mk|omega|assumption|skip))
    (refine awp_ret ?_; simp [go_sem, hF])
   | true =>
    cases cb with
    | false =>
     have hF := hbad1 (by rw [hst1]; simp)
     (refine awp_if fun T F hT hF => ?_; simp [go_sem]; refine hT ?_; clear hT hF T F)
     (refine awp_sr fun Y Yh => ?_; simp [go_sem]; ((repeat' (first|(refine ag_x ?_;simp [go_sem])|intro _|apply And.intro|(apply Yh;clear Yh Y)));all_goals first|apply Hold.mk|omega|assumption|skip))
     (refine awp_ret ?_; simp [go_sem, hF])
    | true =>
     (refine awp_if fun T F hT hF => ?_; simp [go_sem]; refine hF ?_; clear hT hF T F)
     refine awp_skip ?_
     refine hK7 _ ?_; clear hK7
     simp only [Bool.true_and] at hst1
     (refine awp_sr fun Y Yh => ?_; simp [go_sem]; ((repeat' (first|(refine ag_x ?_;simp [go_sem])|intro _|apply And.intro|(apply Yh;clear Yh Y)));all_goals first|apply Hold.mk|omega|assumption|skip))
     refine awp_block ?_
     refine awp_loop (σ := Nat) (fun k => ⟨[(0, dPs l), (1, dI most), (5, dI i), (6, dI k)], []⟩) (fun k => k ≤ i ∧ ap k = true) (fun k => i - k) 0 ?_ ?_ ?_
     ·(refine cov_of ?_ ?_ <;> simp [go_sem])
     ·exact ⟨by omega, hap0⟩
     rintro k ⟨hk, ha⟩
     refine awp_seq_k fun K8 hK8 => ?_
     (refine awp_sr fun Y Yh => ?_; simp [go_sem]; ((repeat' (first|(refine ag_x ?_;simp [go_sem])|intro _|apply And.intro|(apply Yh;clear Yh Y)));all_goals first|apply Hold.mk|omega|assumption|skip))
     (refine awp_if fun T F hT hF => ?_; simp [go_sem]; refine BR.intro (fun h9 => hT ?_) (fun h9 => hF ?_); all_goals clear hT hF T F; try simp at h9) 
     ·refine awp_skip ?_
      refine hK8 _ ?_; clear hK8
      obtain ⟨y, hy⟩ : ∃ y, l[k]? = some y := ⟨_, List.getElem?_eq_getElem (by omega)⟩
      have hap1 := hap k y hy ha
      refine awp_seq_k fun K10 hK10 => ?_
      refine awp_block ?_
      ((refine awp_dr (.qs [0, 1, 2, 3, 5, 6, 7, 8, 4, 9, 10] (.nil)) (by kernel_rfl) ?_ ?_ ?_ ?_); (kernel_rfl); (exact (by decide +kernel)); (kernel_rfl); intro Y Yh; ((repeat' (first|(refine ag_x ?_;simp [go_sem, hx, hy])|refine adr_nil ?_|((first|refine adr_qs fun Y Yh=>?_|refine adr_y fun Y Yh=>?_);simp [go_sem, hx, hy])|intro _|apply And.intro|(apply Yh;clear Yh Y)));all_goals first|apply Hold.mk|omega|assumption|skip))
      (refine awp_if fun T F hT hF => ?_; simp [go_sem]; refine BR.intro (fun h11 => hT ?_) (fun h11 => hF ?_); all_goals clear hT hF T F; try simp at h11) 
      ·have hF := hbad1 (by rw [hst1]; exact hapb (k + 1) (by rw [hap1]; simp [h11]) (by omega))
       (refine awp_sr fun Y Yh => ?_; simp [go_sem]; ((repeat' (first|(refine ag_x ?_;simp [go_sem])|intro _|apply And.intro|(apply Yh;clear Yh Y)));all_goals first|apply Hold.mk|omega|assumption|skip))
       (refine awp_ret ?_; simp [go_sem, hF])
      ·refine awp_skip ?_
       refine hK10 _ ?_; clear hK10
       (refine awp_r fun Y Yh => ?_; simp [go_sem]; ((repeat' (first|(refine ag_x ?_;simp [go_sem])|intro _|apply And.intro|(apply Yh;clear Yh Y)));all_goals first|apply Hold.mk|omega|assumption|skip))
       refine ⟨k + 1, ?_, ⟨by omega, by rw [hap1]; simp [h11]⟩, by omega⟩
       (refine cov_of ?_ ?_ <;> simp [go_sem])
     ·refine awp_exit ?_
      simp only [go_sem]
      have hki : k = i := by omega
      subst hki
      refine hK6 _ ?_; clear hK6
      (refine awp_r fun Y Yh => ?_; simp [go_sem]; ((repeat' (first|(refine ag_x ?_;simp [go_sem])|intro _|apply And.intro|(apply Yh;clear Yh Y)));all_goals first|apply Hold.mk|omega|assumption|skip))
      refine ⟨k + 1, ?_, ⟨by omega, by rw [hst1]; exact ha⟩, by omega⟩
      (refine cov_of ?_ ?_ <;> simp [go_sem])
  ·refine awp_exit ?_
   simp only [go_sem]
   refine hK3 _ ?_; clear hK3
   have : i = l.length := by omega
   subst this
   (refine awp_sr fun Y Yh => ?_; simp [go_sem]; ((repeat' (first|(refine ag_x ?_;simp [go_sem])|intro _|apply And.intro|(apply Yh;clear Yh Y)));all_goals first|apply Hold.mk|omega|assumption|skip))
   (refine awp_ret ?_; simp [go_sem, hle, hn])
set_option maxHeartbeats 8000000 in
theorem versions_spec (l : List Vrs) (hl : l.length ≤ 1000000) (hv : ∀ v ∈ l, SzV v) : PCall Tryz.prog 51 [dVrs l] fun r => r = dB (vuV l) := by 
 refine pcall_of Tryz.func51 rfl rfl Tryz.ntmps51 (rs := [.tmp 2]) (tys := [4]) rfl rfl (by simp) ?_
 have hbad := fun n (h : upTo (vuAt l) n = false) (hn : n ≤ l.length) => upTo_bad h l.length hn
 have hst := fun i x => @vu_step l x i
 have hz : upTo (vuAt l) 0 = true := rfl
 unfold vuV
 generalize upTo (vuAt l) = nt at *
 (refine awp_sr fun Y Yh => ?_; simp [go_sem]; ((repeat' (first|(refine ag_x ?_;simp [go_sem])|intro _|apply And.intro|(apply Yh;clear Yh Y)));all_goals first|apply Hold.mk|omega|assumption|skip))
 refine awp_seq_k fun K1 hK1 => ?_
 (refine awp_sr fun Y Yh => ?_; simp [go_sem]; ((repeat' (first|(refine ag_x ?_;simp [go_sem])|intro _|apply And.intro|(apply Yh;clear Yh Y)));all_goals first|apply Hold.mk|omega|assumption|skip))
 (refine awp_if fun T F hT hF => ?_; simp [go_sem]; refine BR.intro (fun h2 => hT ?_) (fun h2 => hF ?_); all_goals clear hT hF T F; try simp at h2)
 ·have : ¬ l.length ≤ 12 := by omega
  (refine awp_sr fun Y Yh => ?_; simp [go_sem]; ((repeat' (first|(refine ag_x ?_;simp [go_sem])|intro _|apply And.intro|(apply Yh;clear Yh Y)));all_goals first|apply Hold.mk|omega|assumption|skip))
  (refine awp_ret ?_; simp [go_sem, this])
 ·have hle : l.length ≤ 12 := by omega
  refine awp_skip ?_
  refine hK1 _ ?_; clear hK1
  refine awp_seq_k fun K3 hK3 => ?_
  (refine awp_sr fun Y Yh => ?_; simp [go_sem]; ((repeat' (first|(refine ag_x ?_;simp [go_sem])|intro _|apply And.intro|(apply Yh;clear Yh Y)));all_goals first|apply Hold.mk|omega|assumption|skip))
  refine awp_block ?_
  refine awp_loop (σ := Nat) (fun i => ⟨[(0, dVrs l), (3, dI i)], []⟩) (fun i => i ≤ l.length ∧ nt i = true) (fun i => l.length - i) 0 ?_ ?_ ?_
  ·(refine cov_of ?_ ?_ <;> simp [go_sem])
  ·exact ⟨by omega, hz⟩
  rintro i ⟨hi, hn⟩
  refine awp_seq_k fun K4 hK4 => ?_
  (refine awp_sr fun Y Yh => ?_; simp [go_sem]; ((repeat' (first|(refine ag_x ?_;simp [go_sem])|intro _|apply And.intro|(apply Yh;clear Yh Y)));all_goals first|apply Hold.mk|omega|assumption|skip))
  (refine awp_if fun T F hT hF => ?_; simp [go_sem]; refine BR.intro (fun h5 => hT ?_) (fun h5 => hF ?_); all_goals clear hT hF T F; try simp at h5)
  ·refine awp_skip ?_
   refine hK4 _ ?_; clear hK4
   obtain ⟨x, hx⟩ : ∃ x, l[i]? = some x := ⟨_, List.getElem?_eq_getElem (by omega)⟩
   obtain ⟨hx1, hx2⟩ := hv x (List.mem_of_getElem? hx)
   have N1 := rValid_spec x.1 (by omega)
   have C1 := nu_spec x.2 6 hx2 (by decide)
   have hst1 := hst i x hx hn
   have hbad1 := fun h => hbad (i + 1) h (by omega)
   have hap := fun k y => @rank_step l x y k
   have hap0 : upTo (rankAt l x) 0 = true := rfl
   have hapb := fun n (h : upTo (rankAt l x) n = false) (hn : n ≤ i) => upTo_bad h i hn
   generalize upTo (rankAt l x) = ap at *
   generalize hnb : (readV x.1).isSome = nb at *
   generalize nuV 6 x.2 = cb at *
   refine awp_seq_k fun K6 hK6 => ?_
   refine awp_block ?_
   refine awp_seq_k fun K7 hK7 => ?_
   (refine awp_sr fun Y Yh => ?_; simp [go_sem, hx]; ((repeat' (first|(refine ag_x ?_;simp [go_sem, hx])|intro _|apply And.intro|(apply Yh;clear Yh Y)));all_goals first|apply Hold.mk|omega|assumption|skip))
   ((try refine CallT.toA ?_); refine callT_m (.inl ⟨rfl,rfl⟩) (by simp [go_sem]) ?_; intro args ha; simp [go_sem] at ha; subst ha; refine ⟨_, N1, ?_⟩; rintro _ rfl; simp [go_sem, hx]; ((repeat' (first|(refine ag_x ?_;simp [go_sem, hx])|intro _|apply And.intro|(apply Yh;clear Yh Y)));all_goals first|apply Hold.mk|omega|assumption|skip))
   (refine agc_f (dB cb) (.inl ⟨rfl,rfl⟩) ?_ rfl ?_; (intro hc args ha; simp [go_sem] at ha; subst ha; exact C1); simp [go_sem, hx]; ((repeat' (first|(refine ag_x ?_;simp [go_sem, hx])|intro _|apply And.intro|(apply Yh;clear Yh Y)));all_goals first|apply Hold.mk|omega|assumption|skip))
   cases nb with
   | false =>
    have hF := hbad1 (by rw [hst1]; simp)
    (refine awp_if fun T F hT hF => ?_; simp [go_sem]; refine hT ?_; clear hT hF T F)
    (refine awp_sr fun Y Yh => ?_; simp [go_sem]; ((repeat' (first|(refine ag_x ?_;simp [go_sem])|intro _|apply And.intro|(apply Yh;clear Yh Y)));all_goals first|apply Hold.mk|omega|assumption|skip))
    (refine awp_ret ?_; simp [go_sem, hF])
   | true =>
    cases cb with
    | false =>
     have hF := hbad1 (by rw [hst1]; simp)
     (refine awp_if fun T F hT hF => ?_; simp [go_sem]; refine hT ?_; clear hT hF T F)
     (refine awp_sr fun Y Yh => ?_; simp [go_sem]; ((repeat' (first|(refine ag_x ?_;simp [go_sem])|intro _|apply And.intro|(apply Yh;clear Yh Y)));all_goals first|apply Hold.mk|omega|assumption|skip))
     (refine awp_ret ?_; simp [go_sem, hF])
    | true =>
     (refine awp_if fun T F hT hF => ?_; simp [go_sem]; refine hF ?_; clear hT hF T F)
     refine awp_skip ?_
     refine hK7 _ ?_; clear hK7
     simp only [Bool.true_and] at hst1
     (refine awp_sr fun Y Yh => ?_; simp [go_sem]; ((repeat' (first|(refine ag_x ?_;simp [go_sem])|intro _|apply And.intro|(apply Yh;clear Yh Y)));all_goals first|apply Hold.mk|omega|assumption|skip))
     refine awp_block ?_
     refine awp_loop (σ := Nat) (fun k => ⟨[(0, dVrs l), (3, dI i), (4, dI k)], []⟩) (fun k => k ≤ i ∧ ap k = true) (fun k => i - k) 0 ?_ ?_ ?_
     ·(refine cov_of ?_ ?_ <;> simp [go_sem])
     ·exact ⟨by omega, hap0⟩
     rintro k ⟨hk, ha⟩
     refine awp_seq_k fun K8 hK8 => ?_
     (refine awp_sr fun Y Yh => ?_; simp [go_sem]; ((repeat' (first|(refine ag_x ?_;simp [go_sem])|intro _|apply And.intro|(apply Yh;clear Yh Y)));all_goals first|apply Hold.mk|omega|assumption|skip))
     (refine awp_if fun T F hT hF => ?_; simp [go_sem]; refine BR.intro (fun h9 => hT ?_) (fun h9 => hF ?_); all_goals clear hT hF T F; try simp at h9)
     ·refine awp_skip ?_
      refine hK8 _ ?_; clear hK8
      obtain ⟨y, hy⟩ : ∃ y, l[k]? = some y := ⟨_, List.getElem?_eq_getElem (by omega)⟩
      have hap1 := hap k y hy ha
      have CM := rCompare_spec y.1 x.1 (hv y (List.mem_of_getElem? hy)).1 hx1
      generalize codeP ((readV y.1).isSome && (readV x.1).isSome) = cc at *
      generalize compareP y.1 x.1 = cp at *
      refine awp_seq_k fun K10 hK10 => ?_
      refine awp_block ?_
      ((refine awp_dr (.qs [0, 1, 2, 3, 5, 6, 7, 8, 4, 9] (.one 10 (.qs [11, 12, 13, 14, 15] (.nil)))) (by kernel_rfl) ?_ ?_ ?_ ?_); (kernel_rfl); (exact (by decide +kernel)); (kernel_rfl); intro Y Yh; ((repeat' (first|(refine ag_x ?_;simp [go_sem, hx, hy])|refine adr_nil ?_|((first|refine adr_qs fun Y Yh=>?_|refine adr_y fun Y Yh=>?_);simp [go_sem, hx, hy])|intro _|apply And.intro|(apply Yh;clear Yh Y)));all_goals first|apply Hold.mk|omega|assumption|skip))
      ((try refine CallT.toA ?_); refine callT_m (.inl ⟨rfl,rfl⟩) (by simp [go_sem]) ?_; intro args ha; simp [go_sem] at ha; subst ha; refine ⟨_, CM, ?_⟩; rintro _ rfl; simp [go_sem]; ((repeat' (first|(refine ag_x ?_;simp [go_sem])|refine adr_nil ?_|((first|refine adr_qs fun Y Yh=>?_|refine adr_y fun Y Yh=>?_);simp [go_sem])|intro _|apply And.intro|(apply Yh;clear Yh Y)));all_goals first|apply Hold.mk|omega|assumption|skip))
      (refine awp_sr fun Y Yh => ?_; simp [go_sem]; ((repeat' (first|(refine ag_x ?_;simp [go_sem])|intro _|apply And.intro|(apply Yh;clear Yh Y)));all_goals first|apply Hold.mk|omega|assumption|skip))
      (refine awp_if fun T F hT hF => ?_; simp [go_sem]; refine BR.intro (fun h11 => hT ?_) (fun h11 => hF ?_); all_goals clear hT hF T F; try simp at h11)
      ·have hF := hbad1 (by rw [hst1]; exact hapb (k + 1) (by rw [hap1]; simp [h11]) (by omega))
       (refine awp_sr fun Y Yh => ?_; simp [go_sem]; ((repeat' (first|(refine ag_x ?_;simp [go_sem])|intro _|apply And.intro|(apply Yh;clear Yh Y)));all_goals first|apply Hold.mk|omega|assumption|skip))
       (refine awp_ret ?_; simp [go_sem, hF])
      ·refine awp_skip ?_
       refine hK10 _ ?_; clear hK10
       (refine awp_r fun Y Yh => ?_; simp [go_sem]; ((repeat' (first|(refine ag_x ?_;simp [go_sem])|intro _|apply And.intro|(apply Yh;clear Yh Y)));all_goals first|apply Hold.mk|omega|assumption|skip))
       refine ⟨k + 1, ?_, ⟨by omega, by rw [hap1]; simp [h11]⟩, by omega⟩
       (refine cov_of ?_ ?_ <;> simp [go_sem])
     ·refine awp_exit ?_
      simp only [go_sem]
      have hki : k = i := by omega
      subst hki
      refine hK6 _ ?_; clear hK6
      (refine awp_r fun Y Yh => ?_; simp [go_sem]; ((repeat' (first|(refine ag_x ?_;simp [go_sem])|intro _|apply And.intro|(apply Yh;clear Yh Y)));all_goals first|apply Hold.mk|omega|assumption|skip))
      refine ⟨k + 1, ?_, ⟨by omega, by rw [hst1]; exact ha⟩, by omega⟩
      (refine cov_of ?_ ?_ <;> simp [go_sem])
  ·refine awp_exit ?_
   simp only [go_sem]
   refine hK3 _ ?_; clear hK3
   have : i = l.length := by omega
   subst this
   (refine awp_sr fun Y Yh => ?_; simp [go_sem]; ((repeat' (first|(refine ag_x ?_;simp [go_sem])|intro _|apply And.intro|(apply Yh;clear Yh Y)));all_goals first|apply Hold.mk|omega|assumption|skip))
   (refine awp_ret ?_; simp [go_sem, hle, hn])
end Go.Proofs.YteekfnhhlcmcgaaGreatDoor
set_option maxRecDepth 20000
namespace Go.Lk
open Go.Lib Go.Wh Go.Ver
/-! what is found in a source, what is needed, what is picked -/
def fndG (p : Prs) (g : Gm) : Option Vrs := if g.1 = p.1 then g.2.find? (fun v => decide (v.1 = p.2)) else none
def fndV (s : Src) (p : Prs) : Option Vrs := s.findSome? (fndG p)
theorem drop_cons {α : Type} {l : List α} {i : Nat} {x : α} (h : l[i]? = some x) : l.drop i = x :: l.drop (i + 1) := by
 obtain ⟨h1, h2⟩ := List.getElem?_eq_some_iff.1 h
 rw [List.drop_eq_getElem_cons h1, h2]
def fndP (s : Src) (p : Prs) : Vrs := (fndV s p).getD ([], [])
theorem fndG_mem {p : Prs} {g : Gm} {v : Vrs} (h : fndG p g = some v) : v ∈ g.2 ∧ v.1 = p.2 ∧ g.1 = p.1 := by
 unfold fndG at h
 split at h
 ·rename_i e
  have h1 := List.mem_of_find?_eq_some h
  have h2 := List.find?_some h
  exact ⟨h1, by simpa using h2, e⟩
 ·cases h
theorem fndV_mem {s : Src} {p : Prs} {v : Vrs} (h : fndV s p = some v) : ∃ g ∈ s, g.1 = p.1 ∧ v ∈ g.2 ∧ v.1 = p.2 := by
 unfold fndV at h
 obtain ⟨g, hg, h2⟩ := List.exists_of_findSome?_eq_some h
 obtain ⟨a, b, c⟩ := fndG_mem h2
 exact ⟨g, hg, c, a, b⟩
theorem fndP_sz {s : Src} (hs : SzS s) (p : Prs) : SzV (fndP s p) := by
 unfold fndP
 cases h : fndV s p with
 | none => simp [SzV, SzN]
 | some v =>
  obtain ⟨g, hg, _, hv, _⟩ := fndV_mem h
  exact (hs.2 g hg).2.2 v hv
def pkdV (l : List Prs) (n : Bs) : Bs := ((l.find? (fun x => decide (x.1 = n))).map (·.2)).getD []
def allN (s : Src) (w l : List Prs) : List Prs := w ++ l.flatMap fun p => (fndP s p).2
theorem allN_nil (s : Src) (w : List Prs) : allN s w [] = w := by simp [allN]
theorem allN_snoc (s : Src) (w l : List Prs) (p : Prs) : allN s w (l ++ [p]) = allN s w l ++ (fndP s p).2 := by simp [allN]
theorem allN_mem {s : Src} {w l : List Prs} (hs : SzS s) (hw : ∀ x ∈ w, Sz1 x) : ∀ x ∈ allN s w l, Sz1 x := fun x hx => by
 unfold allN at hx
 rcases List.mem_append.1 hx with h | h
 ·exact hw x h
 ·obtain ⟨p, _, hp⟩ := List.mem_flatMap.1 h
  exact (fndP_sz hs p).2.2 x hp
theorem allN_len {s : Src} {w : List Prs} (hs : SzS s) : ∀ l : List Prs, (allN s w l).length ≤ w.length + l.length * 1000000
 | [] => by simp [allN]
 | p :: l => by
  have ih := allN_len (w := w) hs l
  have hp := (fndP_sz hs p).2.1
  unfold allN at ih ⊢
  simp only [List.length_append, List.flatMap_cons, List.length_cons] at ih ⊢
  have e : (l.length + 1) * 1000000 = l.length * 1000000 + 1000000 := Nat.succ_mul _ _
  rw [e]
  omega
end Go.Lk
namespace Go.Proofs.YteekfnhhlcmcgaaGreatDoor
open Go.Eng Go.Wh Go.Ver Go.RowKit Go.Lk
set_option maxRecDepth 20000
attribute [local irreducible] AG CallA CallT AWp PCall ACall AgC
end Go.Proofs.YteekfnhhlcmcgaaGreatDoor
set_option maxRecDepth 20000
namespace Go.Lk
open Go.Lib Go.Wh Go.Ver
/-! the versions of a gem that may be chosen -/
theorem all_take {α : Type} (f : α → Bool) {l : List α} {i : Nat} {x : α} (h : l[i]? = some x) : (l.take (i + 1)).all f = ((l.take i).all f && f x) := by
 rw [List.take_add_one, h]; simp
def aFit (gem num : Bs) (n : Prs) : Bool := decide (n.1 ≠ gem) || meetsP num n.2
def bFit (l : List Prs) (n : Prs) : Bool := decide (pkdV l n.1 = []) || meetsP (pkdV l n.1) n.2
def fitV (all l : List Prs) (gem : Bs) (v : Vrs) : Bool := all.all (aFit gem v.1) && v.2.all (bFit (l ++ [(gem, v.1)]))
def insV (v : Vrs) : List Vrs → List Vrs
 | [] => [v]
 | y :: r => if compareP y.1 v.1 < 0 then v :: y :: r else y :: insV v r
theorem insV_mem {v x : Vrs} : ∀ {out : List Vrs}, x ∈ insV v out ↔ x = v ∨ x ∈ out
 | [] => by simp [insV]
 | y :: r => by
  unfold insV
  split
  ·simp
  ·simp only [List.mem_cons, insV_mem (out := r)]
   constructor
   ·rintro (h | h | h) <;> simp [h]
   ·rintro (h | h | h) <;> simp [h]
def cstV (all l : List Prs) (gem : Bs) (o : List Vrs) (v : Vrs) : List Vrs := if fitV all l gem v = true then insV v o else o
def cstG (all l : List Prs) (gem : Bs) (o : List Vrs) (g : Gm) : List Vrs := if g.1 = gem then g.2.foldl (cstV all l gem) o else o
def candV (s : Src) (w l : List Prs) (gem : Bs) : List Vrs := s.foldl (cstG (allN s w l) l gem) []
theorem cstV_mem {all l : List Prs} {gem : Bs} {o : List Vrs} {v x : Vrs} (h : x ∈ cstV all l gem o v) : x = v ∨ x ∈ o := by
 unfold cstV at h; split at h
 ·exact insV_mem.1 h
 ·exact .inr h
theorem cstsV_mem {all l : List Prs} {gem : Bs} {x : Vrs} : ∀ {vs o : List Vrs}, x ∈ vs.foldl (cstV all l gem) o → x ∈ vs ∨ x ∈ o
 | [], o, h => .inr h
 | v :: vs, o, h => by
  rw [List.foldl_cons] at h
  rcases cstsV_mem h with h | h
  ·exact .inl (by simp [h])
  ·rcases cstV_mem h with h | h
   ·exact .inl (by simp [h])
   ·exact .inr h
theorem cstsG_mem {all l : List Prs} {gem : Bs} {x : Vrs} : ∀ {s : Src} {o : List Vrs}, x ∈ s.foldl (cstG all l gem) o → (∃ g ∈ s, g.1 = gem ∧ x ∈ g.2) ∨ x ∈ o
 | [], o, h => .inr h
 | g :: s, o, h => by
  rw [List.foldl_cons] at h
  rcases cstsG_mem h with ⟨g', h1, h2, h3⟩ | h
  ·exact .inl ⟨g', by simp [h1], h2, h3⟩
  ·unfold cstG at h
   split at h
   ·rename_i e
    rcases cstsV_mem h with h | h
    ·exact .inl ⟨g, by simp, e, h⟩
    ·exact .inr h
   ·exact .inr h
theorem candV_mem {s : Src} {w l : List Prs} {gem : Bs} {x : Vrs} (h : x ∈ candV s w l gem) : ∃ g ∈ s, g.1 = gem ∧ x ∈ g.2 := by
 rcases cstsG_mem h with h | h
 ·exact h
 ·cases h
end Go.Lk
set_option linter.unusedSectionVars false
namespace Go.Eng
variable {P : Program} [HasGlob P] {n : Nat} {S : St} {Q : Exit → St → Prop}
theorem awp_seq_j {x y : Code} {α : Type} (S1 : α → St) (h : ∀ K : St → Prop, (∀ S', AWp P n y S' Q → K S') → (∀ a S', Cov S' (S1 a) → AWp P n y S' Q) → AWp P n x S (thenQ K Q)) (h2 : ∀ a, AWp P n y (S1 a) Q) :
  AWp P n (.seq x y) S Q := awp_seq_k fun K hK => h K hK fun a _ hc => awp_cov hc (h2 a)
end Go.Eng
namespace Go.Proofs.YteekfnhhlcmcgaaGreatDoor
open Go.Eng Go.Wh Go.Ver Go.RowKit Go.Lk
set_option maxRecDepth 20000
attribute [local irreducible] AG CallA CallT AWp PCall ACall AgC
end Go.Proofs.YteekfnhhlcmcgaaGreatDoor
set_option maxRecDepth 20000
namespace Go.Lk
open Go.Lib Go.Wh Go.Ver
/-! the search: picks, error, how many were tried -/
def tryL (rec : List Prs → Nat → (List Prs × Nat) × Nat) (bud : Nat) (gem : Bs) (l : List Prs) : List Vrs → Nat → (List Prs × Nat) × Nat
 | [], t => (([], 3), t)
 | v :: r, t => if bud < t + 1 then (([], 12), t + 1)
  else if (rec (l ++ [(gem, v.1)]) (t + 1)).1.2 ≠ 3 then rec (l ++ [(gem, v.1)]) (t + 1)
  else tryL rec bud gem l r (rec (l ++ [(gem, v.1)]) (t + 1)).2
def freeN (l : List Prs) (n : Prs) : Bool := decide (pkdV l n.1 = [])
def restV (s : Src) (w : List Prs) (bud : Nat) : Nat → List Prs → Nat → (List Prs × Nat) × Nat
 | 0, l, t => (([], 3), t)
 | f + 1, l, t => match (allN s w l).find? (freeN l) with
  | none => ((l, 0), t)
  | some n => tryL (restV s w bud f) bud n.1 l (candV s w l n.1) t
def Tlk (bud t : Nat) (q : (List Prs × Nat) × Nat) : Prop := t ≤ q.2 ∧ q.2 ≤ bud + 1 ∧ (q.1.2 = 12 ∨ q.2 ≤ bud) ∧ (q.1.2 = 0 ∨ q.1.2 = 3 ∨ q.1.2 = 12)
theorem tryL_tlk {rec : List Prs → Nat → (List Prs × Nat) × Nat} {bud : Nat} (h : ∀ l t, t ≤ bud → Tlk bud t (rec l t)) (gem : Bs) (l : List Prs) : ∀ (c : List Vrs) (t : Nat), t ≤ bud → Tlk bud t (tryL rec bud gem l c t)
 | [], t, ht => ⟨Nat.le_refl _, by simp [tryL]; omega, .inr ht, .inr (.inl rfl)⟩
 | v :: r, t, ht => by
  unfold tryL
  split
  ·exact ⟨by simp, by simp; omega, .inl rfl, .inr (.inr rfl)⟩
  ·have hr := h (l ++ [(gem, v.1)]) (t + 1) (by omega)
   split
   ·exact ⟨by have := hr.1; omega, hr.2.1, hr.2.2.1, hr.2.2.2⟩
   ·rename_i h3
    simp only [Decidable.not_not] at h3
    have hb : (rec (l ++ [(gem, v.1)]) (t + 1)).2 ≤ bud := by
     rcases hr.2.2.1 with q | q
     ·omega
     ·exact q
    have := tryL_tlk h gem l r _ hb
    exact ⟨by have := this.1; have := hr.1; omega, this.2.1, this.2.2.1, this.2.2.2⟩
theorem restV_tlk (s : Src) (w : List Prs) (bud : Nat) : ∀ f l t, t ≤ bud → Tlk bud t (restV s w bud f l t)
 | 0, l, t, ht => ⟨Nat.le_refl _, by simp [restV]; omega, .inr ht, .inr (.inl rfl)⟩
 | f + 1, l, t, ht => by
  unfold restV
  split
  ·exact ⟨Nat.le_refl _, by simp; omega, .inr ht, .inl rfl⟩
  ·exact tryL_tlk (restV_tlk s w bud f) _ _ _ _ ht
def muV (s : Src) (l : List Prs) : Nat := (s.filter fun g => decide (pkdV l g.1 = [])).length
theorem filter_lt {α : Type} {p q : α → Bool} (hpq : ∀ x, q x = true → p x = true) {x : α} (hp : p x = true) (hq : q x = false) : ∀ {l : List α}, x ∈ l → (l.filter q).length < (l.filter p).length
 | [], h => by cases h
 | y :: l, h => by
  have le : ∀ l : List α, (l.filter q).length ≤ (l.filter p).length := fun l => by
   induction l with
   | nil => simp
   | cons z l ih =>
    simp only [List.filter_cons]
    cases hz : q z with
    | true => rw [hpq z hz]; simp; exact ih
    | false => cases p z <;> simp <;> omega
  rcases List.mem_cons.1 h with rfl | h
  ·simp only [List.filter_cons, hp, hq]
   have := le l
   simp; omega
  ·have := filter_lt hpq hp hq h
   simp only [List.filter_cons]
   cases hz : q y with
   | true => rw [hpq y hz]; simp; exact this
   | false => cases p y <;> simp <;> omega
def NumOk (l : List Prs) : Prop := ∀ x ∈ l, x.2 ≠ []
theorem pkd_none {l : List Prs} (h : NumOk l) {n : Bs} : pkdV l n = [] ↔ l.find? (fun x => decide (x.1 = n)) = none := by
 unfold pkdV
 cases hf : l.find? (fun x => decide (x.1 = n)) with
 | none => simp
 | some x => have := h x (List.mem_of_find?_eq_some hf); simp [this]
theorem pkd_app (l : List Prs) (g v n : Bs) : pkdV (l ++ [(g, v)]) n = if l.find? (fun x => decide (x.1 = n)) = none then (if g = n then v else []) else pkdV l n := by
 unfold pkdV
 rw [List.find?_append]
 cases hf : l.find? (fun x => decide (x.1 = n)) with
 | none =>
  by_cases e : g = n
  ·simp [e]
  ·simp [e]
 | some x => simp
theorem mu_lt {s : Src} {l : List Prs} {gem v : Bs} (h : NumOk l) (hv : v ≠ []) (hg : ∃ g ∈ s, g.1 = gem) (hf : pkdV l gem = []) : muV s (l ++ [(gem, v)]) < muV s l := by
 obtain ⟨g, hgs, rfl⟩ := hg
 unfold muV
 refine filter_lt (x := g) (fun y hy => ?_) (by simpa using hf) ?_ hgs
 ·simp only [decide_eq_true_eq] at hy ⊢
  rw [pkd_app] at hy
  split at hy
  ·rename_i e; exact (pkd_none h).2 e
  ·exact hy
 ·have := (pkd_none h).1 hf
  simp [pkd_app, this, hv]
theorem mu_le (s : Src) (l : List Prs) : muV s l ≤ s.length := List.length_filter_le _ _
theorem mu_pos {s : Src} {l : List Prs} {gem : Bs} (hg : ∃ g ∈ s, g.1 = gem) (hf : pkdV l gem = []) : 0 < muV s l := by
 obtain ⟨g, hgs, rfl⟩ := hg
 unfold muV
 exact List.length_pos_iff.2 (List.ne_nil_of_mem (List.mem_filter.2 ⟨hgs, by simpa using hf⟩))
/-! a valid source -/
theorem suV_parts {s : Src} (h : suV s = true) : s.length ≤ 15 ∧ ∀ g ∈ s, nameV g.1 = true ∧ vuV g.2 = true := by
 unfold suV at h
 rw [Bool.and_eq_true, decide_eq_true_eq] at h
 refine ⟨h.1, fun g hg => ?_⟩
 obtain ⟨i, hi⟩ := List.getElem?_of_mem hg
 have := upTo_at h.2 (List.getElem?_eq_some_iff.1 hi).1
 unfold suAt at this
 rw [hi] at this
 simp only [Bool.and_eq_true] at this
 exact ⟨this.1.1, this.2⟩
theorem vuV_parts {l : List Vrs} (h : vuV l = true) : l.length ≤ 12 ∧ ∀ v ∈ l, (readV v.1).isSome = true ∧ nuV 6 v.2 = true := by
 unfold vuV at h
 rw [Bool.and_eq_true, decide_eq_true_eq] at h
 refine ⟨h.1, fun v hv => ?_⟩
 obtain ⟨i, hi⟩ := List.getElem?_of_mem hv
 have := upTo_at h.2 (List.getElem?_eq_some_iff.1 hi).1
 unfold vuAt at this
 rw [hi] at this
 simp only [Bool.and_eq_true] at this
 exact this.1
theorem nuV_parts {m : Nat} {l : List Prs} (h : nuV m l = true) : l.length ≤ m ∧ ∀ n ∈ l, nameV n.1 = true ∧ (condsV n.2).isSome = true := by
 unfold nuV at h
 rw [Bool.and_eq_true, decide_eq_true_eq] at h
 refine ⟨h.1, fun v hv => ?_⟩
 obtain ⟨i, hi⟩ := List.getElem?_of_mem hv
 have := upTo_at h.2 (List.getElem?_eq_some_iff.1 hi).1
 unfold nuAt at this
 rw [hi] at this
 simp only [Bool.and_eq_true] at this
 exact this.1
theorem readV_len {v : Bs} (h : (readV v).isSome = true) : v.length ≤ 60 := by
 obtain ⟨l, hl⟩ := Option.isSome_iff_exists.1 h
 exact (readV_ok hl).2.2
theorem condsV_len {w : Bs} (h : (condsV w).isSome = true) : w.length ≤ 1300 := by
 obtain ⟨l, hl⟩ := Option.isSome_iff_exists.1 h
 obtain ⟨h1, h2, h3⟩ := condsV_ok hl
 rw [← h1]
 have := textR_small (k := 20) h3 h2
 omega
theorem nuV_sz {m : Nat} {l : List Prs} (h : nuV m l = true) (hm : m ≤ 1000) : SzN l := by
 obtain ⟨h1, h2⟩ := nuV_parts h
 refine ⟨by omega, fun x hx => ?_⟩
 obtain ⟨a, b⟩ := h2 x hx
 have := (name_nm a).2.2
 have := condsV_len b
 exact ⟨by omega, by omega⟩
theorem suV_sz {s : Src} (h : suV s = true) : SzS s := by
 obtain ⟨h1, h2⟩ := suV_parts h
 refine ⟨by omega, fun g hg => ?_⟩
 obtain ⟨a, b⟩ := h2 g hg
 obtain ⟨c, d⟩ := vuV_parts b
 have := (name_nm a).2.2
 refine ⟨by omega, by omega, fun v hv => ?_⟩
 obtain ⟨e, f⟩ := d v hv
 have := readV_len e
 exact ⟨by omega, nuV_sz f (by omega)⟩
end Go.Lk
namespace Go.Proofs.YteekfnhhlcmcgaaGreatDoor
open Go.Eng Go.Wh Go.Ver Go.RowKit Go.Lk
set_option maxRecDepth 20000
attribute [local irreducible] AG CallA CallT AWp PCall ACall AgC
end Go.Proofs.YteekfnhhlcmcgaaGreatDoor
set_option maxRecDepth 20000
namespace Go.Lk
open Go.Lib Go.Wh Go.Ver
/-! picks and needs in the order of their gems -/
def posP (x : Prs) (out : List Prs) : Nat → Nat
 | 0 => 0
 | n + 1 => match out[n]? with
  | some y => if Op.bytesLess x.1 y.1 = true then posP x out n else n + 1
  | none => n + 1
theorem posP_le (x : Prs) (out : List Prs) : ∀ n, posP x out n ≤ n
 | 0 => Nat.le_refl _
 | n + 1 => by
  have := posP_le x out n
  unfold posP
  split
  ·split <;> omega
  ·omega
theorem posP_step {x y : Prs} {out : List Prs} {n : Nat} (h : out[n]? = some y) : posP x out (n + 1) = if Op.bytesLess x.1 y.1 = true then posP x out n else n + 1 := by
 rw [posP, h]
def insP (x : Prs) (out : List Prs) : List Prs := out.take (posP x out out.length) ++ x :: out.drop (posP x out out.length)
def srtP (l : List Prs) : List Prs := l.foldl (fun o x => insP x o) []
theorem insP_len (x : Prs) (out : List Prs) : (insP x out).length = out.length + 1 := by
 have := posP_le x out out.length
 unfold insP
 simp; omega
theorem insP_mem {x y : Prs} {out : List Prs} : y ∈ insP x out ↔ y = x ∨ y ∈ out := by
 unfold insP
 generalize posP x out out.length = a
 conv => rhs; rw [← List.take_append_drop a out]
 simp only [List.mem_append, List.mem_cons]
 constructor
 ·rintro (h | h | h) <;> simp [h]
 ·rintro (h | h | h) <;> simp [h]
theorem srtP_len' : ∀ (l o : List Prs), (l.foldl (fun o x => insP x o) o).length = o.length + l.length
 | [], o => by simp
 | x :: l, o => by
  rw [List.foldl_cons, srtP_len' l, insP_len]; simp; omega
theorem srtP_len (l : List Prs) : (srtP l).length = l.length := by
 unfold srtP; rw [srtP_len']; simp
theorem srtP_mem' {y : Prs} : ∀ (l o : List Prs), y ∈ l.foldl (fun o x => insP x o) o ↔ y ∈ l ∨ y ∈ o
 | [], o => by simp
 | x :: l, o => by
  rw [List.foldl_cons, srtP_mem' l, insP_mem]
  simp only [List.mem_cons]
  constructor
  ·rintro (h | h | h) <;> simp [h]
  ·rintro ((h | h) | h) <;> simp [h]
theorem srtP_mem {y : Prs} {l : List Prs} : y ∈ srtP l ↔ y ∈ l := by
 unfold srtP; rw [srtP_mem']; simp
def solV (s : Src) (w : List Prs) (b : Int) : List Prs × Nat × Nat :=
 if chkV s w = true ∧ 1 ≤ b ∧ b ≤ 100000 then
  let q := restV s w b.toNat (s.length + 1) [] 0
  (srtP q.1.1, q.2, q.1.2)
 else ([], 0, 1)
/-! what a solution is made of -/
def PickOk (s : Src) (l : List Prs) : Prop := (∀ x ∈ l, ∃ g ∈ s, g.1 = x.1 ∧ ∃ v ∈ g.2, v.1 = x.2) ∧ (l.map (·.1)).Nodup
theorem pkd_notin {l : List Prs} (h : NumOk l) {n : Bs} (hp : pkdV l n = []) : n ∉ l.map (·.1) := fun hm => by
 obtain ⟨x, hx, rfl⟩ := List.mem_map.1 hm
 have := (pkd_none h).1 hp
 have := List.find?_eq_none.1 this x hx
 simp at this
theorem pickOk_num {s : Src} {l : List Prs} (hs : suV s = true) (h : PickOk s l) : NumOk l := fun x hx => by
 obtain ⟨g, hg, _, v, hv, e⟩ := h.1 x hx
 have := (vuV_parts ((suV_parts hs).2 g hg).2).2 v hv
 rw [← e]
 exact readV_ne this.1
theorem pickOk_snoc {s : Src} {l : List Prs} {gem : Bs} {v : Vrs} (hs : suV s = true) (h : PickOk s l) (hp : pkdV l gem = []) (hv : ∃ g ∈ s, g.1 = gem ∧ v ∈ g.2) : PickOk s (l ++ [(gem, v.1)]) := by
 refine ⟨fun x hx => ?_, ?_⟩
 ·rcases List.mem_append.1 hx with h1 | h1
  ·exact h.1 x h1
  ·simp at h1; subst h1
   obtain ⟨g, a, b, c⟩ := hv
   exact ⟨g, a, b, v, c, rfl⟩
 ·have := pkd_notin (pickOk_num hs h) hp
  rw [List.map_append, List.nodup_append]
  refine ⟨h.2, by simp, ?_⟩
  intro a ha b hb
  simp at hb
  subst hb
  exact fun e => this (e ▸ ha)
theorem tryL_pick {s : Src} {bud : Nat} {gem : Bs} {l : List Prs} {rec : List Prs → Nat → (List Prs × Nat) × Nat} (hs : suV s = true) (hrec : ∀ l t, PickOk s l → PickOk s (rec l t).1.1) (h : PickOk s l) (hp : pkdV l gem = []) :
  ∀ (c : List Vrs) (t : Nat), (∀ v ∈ c, ∃ g ∈ s, g.1 = gem ∧ v ∈ g.2) → PickOk s (tryL rec bud gem l c t).1.1
 | [], t, _ => ⟨by simp [tryL], by simp [tryL]⟩
 | v :: r, t, hc => by
  have hv := pickOk_snoc hs h hp (hc v (by simp))
  unfold tryL
  split
  ·exact ⟨by simp, by simp⟩
  ·split
   ·exact hrec _ _ hv
   ·exact tryL_pick hs hrec h hp r _ fun v hv => hc v (by simp [hv])
theorem restV_pick {s : Src} {w : List Prs} {bud : Nat} (hs : suV s = true) : ∀ f l t, PickOk s l → PickOk s (restV s w bud f l t).1.1
 | 0, l, t, _ => ⟨by simp [restV], by simp [restV]⟩
 | f + 1, l, t, h => by
  unfold restV
  split
  ·exact h
  ·rename_i n hn
   have hp := List.find?_some hn
   unfold freeN at hp
   exact tryL_pick hs (restV_pick hs f) h (by simpa using hp) _ _ fun v hv => candV_mem hv
theorem tryL_len {bud : Nat} {gem : Bs} {l : List Prs} {rec : List Prs → Nat → (List Prs × Nat) × Nat} {m : Nat} (h : ∀ v t, (rec (l ++ [(gem, v)]) t).1.1.length ≤ m) : ∀ (c : List Vrs) (t : Nat), (tryL rec bud gem l c t).1.1.length ≤ m
 | [], t => by simp [tryL]
 | v :: r, t => by
  unfold tryL
  split
  ·simp
  ·split
   ·exact h _ _
   ·exact tryL_len h r _
theorem restV_len (s : Src) (w : List Prs) (bud : Nat) : ∀ f l t, (restV s w bud f l t).1.1.length ≤ l.length + f
 | 0, l, t => by simp [restV]
 | f + 1, l, t => by
  unfold restV
  split
  ·simp
  ·rename_i n hn
   refine tryL_len (fun v t => ?_) _ _
   have := restV_len s w bud f (l ++ [(n.1, v)]) t
   refine Nat.le_trans this ?_
   simp; omega
theorem solV_len {s : Src} {w : List Prs} {b : Int} : (solV s w b).1.length ≤ 16 := by
 unfold solV
 split
 ·rename_i h
  have h1 := h.1
  unfold chkV at h1
  rw [Bool.and_eq_true] at h1
  have := (suV_parts h1.1).1
  have := restV_len s w b.toNat (s.length + 1) [] 0
  simp only [srtP_len]
  simp at this
  omega
 ·simp
theorem solV_pick {s : Src} {w : List Prs} {b : Int} (hs : suV s = true) : (∀ x ∈ (solV s w b).1, ∃ g ∈ s, g.1 = x.1 ∧ ∃ v ∈ g.2, v.1 = x.2) := fun x hx => by
 unfold solV at hx
 split at hx
 ·simp only at hx
  rw [srtP_mem] at hx
  exact (restV_pick hs _ [] 0 ⟨by simp, by simp⟩).1 x hx
 ·simp at hx
theorem solV_chk {s : Src} {w : List Prs} {b : Int} (h : (solV s w b).2.2 = 0) : chkV s w = true ∧ 1 ≤ b ∧ b ≤ 100000 := by
 unfold solV at h
 split at h
 ·rename_i q; exact q
 ·simp at h
end Go.Lk
namespace Go.Proofs.YteekfnhhlcmcgaaGreatDoor
open Go.Eng Go.Wh Go.Ver Go.RowKit Go.Lk
set_option maxRecDepth 20000
attribute [local irreducible] AG CallA CallT AWp PCall ACall AgC
def unI (n : Int) : Nat := (n % 18446744073709551616).toNat
theorem unI_wrap (n : Int) : IntKind.u64.wrap n = (unI n : Int) := by
 rw [show IntKind.u64.wrap n = n % 18446744073709551616 by simp [IntKind.wrap, IntKind.bits, IntKind.signed]]
 unfold unI; omega
theorem wrapNI {x : Nat} (h : x < 18446744073709551616) : IntKind.u64.wrap (x : Int) = x := by
 rw [show IntKind.u64.wrap (x : Int) = (x : Int) % 18446744073709551616 by simp [IntKind.wrap, IntKind.bits, IntKind.signed]]
 omega
def pickK (l : List Int) (a n : Nat) : Nat := if a < l.length then unI (l.getD a 0) % n else 0
def pickA (l : List Int) (a : Nat) : Nat := if a < l.length then a + 1 else a
theorem pickK_lt {l : List Int} {a n : Nat} (h : 0 < n) : pickK l a n < n := by
 unfold pickK; split
 ·exact Nat.mod_lt _ h
 ·exact h
theorem pickA_le {l : List Int} {a : Nat} (h : a ≤ l.length) : pickA l a ≤ l.length := by
 unfold pickA; split <;> omega
set_option maxHeartbeats 8000000 in
theorem pick_spec (l : List Int) (a n g : Nat) (hl : l.length ≤ 9223372036854775807) (ha : a ≤ l.length) (hn : 0 < n) (hn2 : n ≤ 100) :
  ACall Tryz.prog 49 [.ptr 900002 g 0, dI n] [(900002, (g, .box [dIs l, dI a]))] [900002]
   fun ps r => ps = [(g, .box [dIs l, dI (pickA l a)])] ∧ r = dI (pickK l a n) := by
 refine acall_of Tryz.func49 rfl rfl Tryz.ntmps49 (rs := [.tmp 4]) (tys := [3]) rfl rfl (by simp) ?_ ?_
 ·intro q hq
  simp only [List.mem_cons, List.not_mem_nil, or_false] at hq
  subst hq
  simp [notFroz]
 (refine awp_sr fun Y Yh => ?_; simp [go_sem]; ((repeat' (first|(refine ag_x ?_;simp [go_sem])|intro _|apply And.intro|(apply Yh;clear Yh Y)));all_goals first|apply Hold.mk|omega|assumption|skip))
 refine awp_seq_k fun K1 hK1 => ?_
 by_cases h : a < l.length
 ·obtain ⟨x, hx⟩ : ∃ x, l[a]? = some x := ⟨_, List.getElem?_eq_getElem h⟩
  have hk : pickK l a n = unI x % n := by unfold pickK; rw [if_pos h]; simp [List.getD, hx]
  have hA : pickA l a = a + 1 := by unfold pickA; rw [if_pos h]
  rw [hk, hA]
  have hi : ¬ (l.length : Int) ≤ a := by omega
  have hi1 : ((a : Int) + 1 - 1).toNat = a := by omega
  have hi2 : (a : Int) + 1 - 1 = a := by omega
  have w1 := unI_wrap x
  have w2 := wrapNI (x := n) (by omega)
  have hlt : unI x % n < n := Nat.mod_lt _ hn
  have hne : ¬ (n : Int) = 0 := by omega
  have hux : unI x < 18446744073709551616 := by unfold unI; omega
  have m1 : IntKind.u64.wrap (((unI x : Nat) : Int).tmod (n : Int)) = ((unI x % n : Nat) : Int) := by
   rw [show ((unI x : Nat) : Int).tmod (n : Int) = ((unI x % n : Nat) : Int) by simp [Int.tmod_eq_emod_of_nonneg]]
   exact wrapNI (by omega)
  have m0 : ((unI x : Nat) : Int).tmod (n : Int) = ((unI x % n : Nat) : Int) := by simp [Int.tmod_eq_emod_of_nonneg]
  generalize hkk : unI x % n = k at *
  ((refine awp_dr (.qs [0, 1, 2, 4, 5, 6, 3, 7, 8, 9] (.nil)) (by kernel_rfl) ?_ ?_ ?_ ?_); (kernel_rfl); (exact (by decide +kernel)); (kernel_rfl); intro Y Yh; ((repeat' (first|(refine ag_x ?_;simp [go_sem, hi])|refine adr_nil ?_|((first|refine adr_qs fun Y Yh=>?_|refine adr_y fun Y Yh=>?_);simp [go_sem, hi])|intro _|apply And.intro|(apply Yh;clear Yh Y)));all_goals first|apply Hold.mk|omega|assumption|skip))
  (refine awp_if fun T F hT hF => ?_; simp [go_sem, hi, h]; refine hF ?_; clear hT hF T F)
  refine awp_skip ?_
  refine hK1 _ ?_; clear hK1
  (refine awp_sr fun Y Yh => ?_; simp [go_sem]; ((repeat' (first|(refine ag_x ?_;simp [go_sem])|intro _|apply And.intro|(apply Yh;clear Yh Y)));all_goals first|apply Hold.mk|omega|assumption|skip))
  ((refine awp_dr (.qs [0, 1, 2, 4, 5, 6, 12, 13, 3, 7, 8, 9, 10, 11, 14, 15, 16] (.nil)) (by kernel_rfl) ?_ ?_ ?_ ?_); (kernel_rfl); (exact (by decide +kernel)); (kernel_rfl); intro Y Yh; ((repeat' (first|(refine ag_x ?_;simp [go_sem, hx, hi1, hi2, w1, w2, m1, m0, hne])|refine adr_nil ?_|((first|refine adr_qs fun Y Yh=>?_|refine adr_y fun Y Yh=>?_);simp [go_sem, hx, hi1, hi2, w1, w2, m1, m0, hne])|intro _|apply And.intro|(apply Yh;clear Yh Y)));all_goals first|apply Hold.mk|omega|assumption|skip))
  (refine awp_ret ?_; simp [go_sem])
  exact ⟨by rw [hA]; omega, hk.symm⟩
 ·have hk : pickK l a n = 0 := by unfold pickK; rw [if_neg h]
  have hA : pickA l a = a := by unfold pickA; rw [if_neg h]
  rw [hk, hA]
  have hi : (l.length : Int) ≤ a := by omega
  ((refine awp_dr (.qs [0, 1, 2, 4, 5, 6, 3, 7, 8, 9] (.nil)) (by kernel_rfl) ?_ ?_ ?_ ?_); (kernel_rfl); (exact (by decide +kernel)); (kernel_rfl); intro Y Yh; ((repeat' (first|(refine ag_x ?_;simp [go_sem, hi])|refine adr_nil ?_|((first|refine adr_qs fun Y Yh=>?_|refine adr_y fun Y Yh=>?_);simp [go_sem, hi])|intro _|apply And.intro|(apply Yh;clear Yh Y)));all_goals first|apply Hold.mk|omega|assumption|skip))
  (refine awp_if fun T F hT hF => ?_; simp [go_sem, hi, h]; refine hT ?_; clear hT hF T F)
  (refine awp_sr fun Y Yh => ?_; simp [go_sem]; ((repeat' (first|(refine ag_x ?_;simp [go_sem])|intro _|apply And.intro|(apply Yh;clear Yh Y)));all_goals first|apply Hold.mk|omega|assumption|skip))
  (refine awp_ret ?_; simp [go_sem, hk, hA])
def nmsL : List Bs := [[97], [98], [99, 49], [100, 45, 101], [102], [97], [98], [103, 111, 110, 101]]
def wtsL : List Bs := [[], [], [62, 61, 32, 49, 46, 48], [126, 62, 32, 49, 46, 48], [60, 32, 50, 46, 48], [126, 62, 32, 50, 46, 48], [61, 32, 49, 46, 53], [62, 32, 50, 46, 48, 46, 97], [33, 61, 32, 51]]
theorem lit_at (L : List Bs) {k : Nat} (h : k < L.length) : ∃ y, L[k]? = some y ∧ y ∈ L := ⟨_, List.getElem?_eq_getElem h, List.getElem_mem h⟩
set_option maxHeartbeats 16000000 in
theorem gneeds_spec (l : List Int) (a most g : Nat) (hl : l.length ≤ 9223372036854775807) (ha : a ≤ l.length) (hm : most ≤ 10) :
  ACall Tryz.prog 50 [.ptr 900002 g 0, dI most] [(900002, (g, .box [dIs l, dI a]))] [900002]
   fun ps r => ∃ a' out, a' ≤ l.length ∧ nuV 10 out = true ∧ out.length ≤ most ∧ ps = [(g, .box [dIs l, dI a'])] ∧ r = dPs out := by
 refine acall_of Tryz.func50 rfl rfl Tryz.ntmps50 (rs := [.tmp 4]) (tys := [26]) rfl rfl (by simp) ?_ ?_
 ·intro q hq
  simp only [List.mem_cons, List.not_mem_nil, or_false] at hq
  subst hq
  simp [notFroz]
 have PK := fun a n ha hn hn2 => pick_spec l a n g hl ha hn hn2
 have P1 := PK a (most + 1) ha (by omega) (by omega)
 rw [show ((most + 1 : Nat) : Int) = (most : Int) + 1 by omega] at P1
 have hk1 := pickK_lt (l := l) (a := a) (n := most + 1) (by omega)
 have ha1 := pickA_le ha
 generalize pickK l a (most + 1) = k0 at *
 generalize pickA l a = a0 at *
 (refine awp_sr fun Y Yh => ?_; simp [go_sem]; ((repeat' (first|(refine ag_x ?_;simp [go_sem])|intro _|apply And.intro|(apply Yh;clear Yh Y)));all_goals first|apply Hold.mk|omega|assumption|skip))
 (refine awp_sr fun Y Yh => ?_; simp [go_sem]; ((repeat' (first|(refine ag_x ?_;simp [go_sem])|intro _|apply And.intro|(apply Yh;clear Yh Y)));all_goals first|apply Hold.mk|omega|assumption|skip))
 refine awp_nilslot 5 5 43 2 rfl fun g5 => ?_
 simp only [go_sem]
 refine awp_seq_k fun K1 hK1 => ?_
 (refine awp_sr fun Y Yh => ?_; simp [go_sem]; ((repeat' (first|(refine ag_x ?_;simp [go_sem])|intro _|apply And.intro|(apply Yh;clear Yh Y)));all_goals first|apply Hold.mk|omega|assumption|skip))
 (refine callA_l [900002] (.inl ⟨rfl,rfl⟩) (by simp [go_sem]) ?_; intro args ha; simp [go_sem] at ha; subst ha; refine ⟨_, _, P1, (by simp [go_sem]), ?_⟩; rintro ps r hps ⟨rfl, rfl⟩; simp [go_sem]; ((repeat' (first|(refine ag_x ?_;simp [go_sem])|intro _|apply And.intro|(apply Yh;clear Yh Y)));all_goals first|apply Hold.mk|omega|assumption|skip))
 refine awp_block ?_
 refine awp_loop (σ := Nat × Nat × List Prs × Nat) (fun x => ⟨[(0, .ptr 900002 g 0), (5, .own 5 x.2.2.2), (6, dI x.1)], [(900002, (g, .box [dIs l, dI x.2.1])), (5, x.2.2.2, .row 43 2 (x.2.2.1.map cP))]⟩)
  (fun x => x.2.1 ≤ l.length ∧ nuV 10 x.2.2.1 = true ∧ x.2.2.1.length + x.1 ≤ most) (fun x => x.1) (k0, a0, [], g5) ?_ ?_ ?_
 ·(refine cov_of ?_ ?_ <;> simp [go_sem])
 ·exact ⟨ha1, rfl, by simp; omega⟩
 rintro ⟨i, a, out, g5⟩ ⟨ha, hnu, hol⟩
 simp only at ha hnu hol
 refine awp_seq_k fun K2 hK2 => ?_
 (refine awp_sr fun Y Yh => ?_; simp [go_sem]; ((repeat' (first|(refine ag_x ?_;simp [go_sem])|intro _|apply And.intro|(apply Yh;clear Yh Y)));all_goals first|apply Hold.mk|omega|assumption|skip))
 (refine awp_if fun T F hT hF => ?_; simp [go_sem]; refine BR.intro (fun h3 => hT ?_) (fun h3 => hF ?_); all_goals clear hT hF T F; try simp at h3)
 ·refine awp_skip ?_
  refine hK2 _ ?_; clear hK2
  refine awp_seq_j (α := {x : Nat × List Prs × Nat // x.1 ≤ l.length ∧ nuV 10 x.2.1 = true ∧ x.2.1.length + (i - 1) ≤ most}) (fun x => ⟨[(0, .ptr 900002 g 0), (5, .own 5 x.1.2.2), (6, dI i)], [(900002, (g, .box [dIs l, dI x.1.1])), (5, x.1.2.2, .row 43 2 (x.1.2.1.map cP))]⟩) (fun K4 hK4 hM4 => ?_) (fun x => ?_)
  rotate_left
  ·obtain ⟨⟨a', out', g'⟩, h1, h2, h3'⟩ := x
   simp only at h1 h2 h3'
   obtain ⟨j, rfl⟩ : ∃ j, i = j + 1 := ⟨i - 1, by omega⟩
   (refine awp_r fun Y Yh => ?_; simp [go_sem]; ((repeat' (first|(refine ag_x ?_;simp [go_sem])|intro _|apply And.intro|(apply Yh;clear Yh Y)));all_goals first|apply Hold.mk|omega|assumption|skip))
   refine ⟨(j, a', out', g'), ?_, ⟨h1, h2, by simpa using h3'⟩, by simp⟩
   (refine cov_of ?_ ?_ <;> simp [go_sem])
  have P2 := PK a 8 ha (by decide) (by decide)
  have hk2 := pickK_lt (l := l) (a := a) (n := 8) (by decide)
  have ha2 := pickA_le ha
  generalize pickK l a 8 = k2 at *
  generalize pickA l a = a2 at *
  have P3 := PK a2 9 ha2 (by decide) (by decide)
  have hk3 := pickK_lt (l := l) (a := a2) (n := 9) (by decide)
  have ha3 := pickA_le ha2
  generalize pickK l a2 9 = k3 at *
  generalize pickA l a2 = a3 at *
  obtain ⟨nm, hnm, hnmm⟩ := lit_at nmsL (k := k2) hk2
  obtain ⟨wt, hwt, hwtm⟩ := lit_at wtsL (k := k3) hk3
  have hnl : nm.length ≤ 20 := (by decide : ∀ y ∈ nmsL, y.length ≤ 20) nm hnmm
  have hwl : wt.length ≤ 20 := (by decide : ∀ y ∈ wtsL, y.length ≤ 20) wt hwtm
  have r1 : ([[dS [97]], [dS [98]], [dS [99, 49]], [dS [100, 45, 101]], [dS [102]], [dS [97]], [dS [98]], [dS [103, 111, 110, 101]]] : List (List D))[k2]? = some [dS nm] := by
   have : (nmsL.map cS)[k2]? = some (cS nm) := by rw [List.getElem?_map, hnm]; rfl
   exact this
  have r2 : ([[dS []], [dS []], [dS [62, 61, 32, 49, 46, 48]], [dS [126, 62, 32, 49, 46, 48]], [dS [60, 32, 50, 46, 48]], [dS [126, 62, 32, 50, 46, 48]], [dS [61, 32, 49, 46, 53]], [dS [62, 32, 50, 46, 48, 46, 97]], [dS [33, 61, 32, 51]]] : List (List D))[k3]? = some [dS wt] := by
   have : (wtsL.map cS)[k3]? = some (cS wt) := by rw [List.getElem?_map, hwt]; rfl
   exact this
  have hsz := nuV_sz hnu (by decide)
  have NU := nu_spec (out ++ [(nm, wt)]) 10 ⟨by simp; omega, fun x hx => by
   rcases List.mem_append.1 hx with h | h
   ·exact hsz.2 x h
   ·simp at h; subst h; exact ⟨by show nm.length ≤ _; omega, by show wt.length ≤ _; omega⟩⟩ (by decide)
  generalize hnb : nuV 10 (out ++ [(nm, wt)]) = nb at *
  refine awp_block ?_
  refine awp_seq_j (α := Nat) (fun g' => ⟨[(0, .ptr 900002 g 0), (5, .own 5 g'), (6, dI i)], [(900002, (g, .box [dIs l, dI a3])), (5, g', .row 43 2 ((out ++ [(nm, wt)]).map cP))]⟩) (fun K15 hK15 hM15 => ?_) (fun g' => ?_)
  ·((refine awp_d (.qs [0, 2, 7] (.three 1 (.two 3 (.qs [4] (.three 5 (.two 6 (.one 8 (.qs [9, 10, 11] (.one 12 (.one 13 (.qs [14] (.nil)))))) 8 (.kp 6 (.qs [9] (.nb (.qs [10, 11] (.one 12 (.one 13 (.qs [14] (.nil))))))))) 6 (.kq 5 (.one 8 (.qs [9, 10, 11] (.one 12 (.one 13 (.qs [14] (.nil)))))) 8 (.qs [9, 5, 10, 11] (.one 12 (.one 13 (.qs [14] (.nil)))))) 8 (.qs [5] (.kp 6 (.qs [9] (.nb (.qs [10, 11] (.one 12 (.one 13 (.qs [14] (.nil))))))))))) 6 (.one 3 (.qs [4] (.kq 5 (.one 8 (.qs [9, 10, 11] (.one 12 (.one 13 (.qs [14] (.nil)))))) 8 (.qs [9, 5, 10, 11] (.one 12 (.one 13 (.qs [14] (.nil))))))))) 3 (.three 1 (.qs [4] (.three 5 (.two 6 (.one 8 (.qs [9, 10, 11] (.one 12 (.one 13 (.qs [14] (.nil)))))) 8 (.kp 6 (.qs [9] (.nb (.qs [10, 11] (.one 12 (.one 13 (.qs [14] (.nil))))))))) 6 (.kq 5 (.one 8 (.qs [9, 10, 11] (.one 12 (.one 13 (.qs [14] (.nil)))))) 8 (.qs [9, 5, 10, 11] (.one 12 (.one 13 (.qs [14] (.nil)))))) 8 (.qs [5] (.kp 6 (.qs [9] (.nb (.qs [10, 11] (.one 12 (.one 13 (.qs [14] (.nil))))))))))) 6 (.two 1 (.qs [4] (.kq 5 (.one 8 (.qs [9, 10, 11] (.one 12 (.one 13 (.qs [14] (.nil)))))) 8 (.qs [9, 5, 10, 11] (.one 12 (.one 13 (.qs [14] (.nil))))))) 8 (.qs [9, 10] (.kp 1 (.qs [4] (.nb (.qs [5, 11] (.one 12 (.one 13 (.qs [14] (.nil)))))))))) 8 (.kp2 1 (.qs [4] (.nb (.qs [5] (.kp 6 (.qs [9] (.nb (.qs [10, 11] (.one 12 (.one 13 (.qs [14] (.nil))))))))))) 6 (.qs [9] (.nb (.qs [10] (.kp 1 (.qs [4] (.nb (.qs [5, 11] (.one 12 (.one 13 (.qs [14] (.nil))))))))))))) 6 (.two 1 (.one 3 (.qs [4] (.kq 5 (.one 8 (.qs [9, 10, 11] (.one 12 (.one 13 (.qs [14] (.nil)))))) 8 (.qs [9, 5, 10, 11] (.one 12 (.one 13 (.qs [14] (.nil)))))))) 3 (.two 1 (.qs [4] (.kq 5 (.one 8 (.qs [9, 10, 11] (.one 12 (.one 13 (.qs [14] (.nil)))))) 8 (.qs [9, 5, 10, 11] (.one 12 (.one 13 (.qs [14] (.nil))))))) 8 (.qs [9, 10] (.kp 1 (.qs [4] (.nb (.qs [5, 11] (.one 12 (.one 13 (.qs [14] (.nil))))))))))))) (by kernel_rfl) ?_ ?_ ?_ ?_); (kernel_rfl); (exact (by decide +kernel)); (kernel_rfl); intro Y Yh; ((repeat' (first|(refine ag_x ?_;simp [go_sem, r1, r2])|refine adr_nil ?_|refine adr_two ?_ ?_|refine adr_kq ?_ ?_|refine adr_three ?_ ?_ ?_|refine adr_kp2 ?_ ?_|((first|refine adr_qs fun Y Yh=>?_|refine adr_y fun Y Yh=>?_);simp [go_sem, r1, r2])|intro _|apply And.intro|(apply Yh;clear Yh Y)));all_goals first|apply Hold.mk|omega|assumption|skip))
   all_goals (refine callA_l [900002] (.inl ⟨rfl,rfl⟩) (by simp [go_sem]) ?_; intro args ha; simp [go_sem] at ha; subst ha; refine ⟨_, _, P2, (by simp [go_sem, r1, r2]), ?_⟩; rintro ps r hps ⟨rfl, rfl⟩; simp [go_sem, r1, r2]; ((repeat' (first|(refine ag_x ?_;simp [go_sem, r1, r2])|refine adr_nil ?_|refine adr_two ?_ ?_|refine adr_kq ?_ ?_|refine adr_three ?_ ?_ ?_|refine adr_kp2 ?_ ?_|((first|refine adr_qs fun Y Yh=>?_|refine adr_y fun Y Yh=>?_);simp [go_sem, r1, r2])|intro _|apply And.intro|(apply Yh;clear Yh Y)));all_goals first|apply Hold.mk|omega|assumption|skip))
   all_goals (refine callA_l [900002] (.inl ⟨rfl,rfl⟩) (by simp [go_sem]) ?_; intro args ha; simp [go_sem] at ha; subst ha; refine ⟨_, _, P3, (by simp [go_sem, r1, r2]), ?_⟩; rintro ps r hps ⟨rfl, rfl⟩; simp [go_sem, r1, r2]; ((repeat' (first|(refine ag_x ?_;simp [go_sem, r1, r2])|refine adr_nil ?_|refine adr_two ?_ ?_|refine adr_kq ?_ ?_|refine adr_three ?_ ?_ ?_|refine adr_kp2 ?_ ?_|((first|refine adr_qs fun Y Yh=>?_|refine adr_y fun Y Yh=>?_);simp [go_sem, r1, r2])|intro _|apply And.intro|(apply Yh;clear Yh Y)));all_goals first|apply Hold.mk|omega|assumption|skip))
   all_goals
    refine hK15 _ ?_
    refine awp_renrow 5 5 rfl rfl (by decide) fun g' => ?_
    simp only [go_sem]
    refine hM15 g' _ ?_
    (refine cov_of ?_ ?_ <;> simp [go_sem])
  ·rw [show dPs (out ++ [(nm, wt)]) = D.sl 2 (out.map cP ++ [[dS nm, dS wt]]) by simp [go_sem]] at NU
   (refine awp_sr fun Y Yh => ?_; simp [go_sem]; ((repeat' (first|(refine ag_x ?_;simp [go_sem])|intro _|apply And.intro|(apply Yh;clear Yh Y)));all_goals first|apply Hold.mk|omega|assumption|skip))
   ((try refine CallT.toA ?_); refine callT_f (.inl ⟨rfl,rfl⟩) ?_; intro args ha; simp [go_sem] at ha; subst ha; refine ⟨_, NU, ?_⟩; rintro _ rfl; refine ⟨rfl, ?_⟩; simp [go_sem]; ((repeat' (first|(refine ag_x ?_;simp [go_sem])|intro _|apply And.intro|(apply Yh;clear Yh Y)));all_goals first|apply Hold.mk|omega|assumption|skip))
   cases nb with
   | true =>
    (refine awp_if fun T F hT hF => ?_; simp [go_sem]; refine hF ?_; clear hT hF T F)
    refine awp_skip ?_
    refine hK4 _ ?_
    refine hM4 ⟨(a3, out ++ [(nm, wt)], g'), ha3, hnb, by simp; omega⟩ _ ?_
    (refine cov_of ?_ ?_ <;> simp [go_sem])
   | false =>
    have hl1 : ((out.length : Int) + 1 - 1).toNat = out.length := by omega
    have hl2 : (out.length : Int) + 1 - 1 = out.length := by omega
    (refine awp_if fun T F hT hF => ?_; simp [go_sem]; refine hT ?_; clear hT hF T F)
    (refine awp_r fun Y Yh => ?_; simp [go_sem, hl1, hl2]; ((repeat' (first|(refine ag_x ?_;simp [go_sem, hl1, hl2])|intro _|apply And.intro|(apply Yh;clear Yh Y)));all_goals first|apply Hold.mk|omega|assumption|skip))
    refine hK4 _ ?_
    refine awp_renrow 5 5 rfl rfl (by decide) fun g'' => ?_
    simp only [go_sem]
    refine hM4 ⟨(a3, out, g''), ha3, hnu, by simp only; omega⟩ _ ?_
    (refine cov_of ?_ ?_ <;> simp [go_sem])
 ·refine awp_exit ?_
  simp only [go_sem]
  refine hK1 _ ?_; clear hK1
  (refine awp_sr fun Y Yh => ?_; simp [go_sem]; ((repeat' (first|(refine ag_x ?_;simp [go_sem])|intro _|apply And.intro|(apply Yh;clear Yh Y)));all_goals first|apply Hold.mk|omega|assumption|skip))
  refine awp_frzrow 4 rfl rfl ?_
  simp only [go_sem]
  (refine awp_ret ?_; simp [go_sem])
  exact ⟨a, ha, out, hnu, by omega, by simp⟩
def gnmL : List Bs := [[97], [98], [99, 49], [100, 45, 101], [102]]
def numL : List Bs := [[49, 46, 48], [49, 46, 53], [50, 46, 48], [50, 46, 49, 46, 97], [51]]
structure GrOk (s : Src) (w : List Prs) : Prop where
 nm : s.map (·.1) = gnmL
 vs : ∀ g ∈ s, vuV g.2 = true ∧ g.2.length ≤ 4
 wi : nuV 10 w = true
 wl : w.length ≤ 3
theorem grOk_su {s : Src} {w : List Prs} (h : GrOk s w) : suV s = true := by
 have hl : s.length = 5 := by have := congrArg List.length h.nm; simpa [gnmL] using this
 unfold suV
 rw [Bool.and_eq_true]
 refine ⟨by simp [hl], upTo_of fun i hi => ?_⟩
 obtain ⟨g, hg⟩ : ∃ g, s[i]? = some g := ⟨_, List.getElem?_eq_getElem hi⟩
 have hgn : gnmL[i]? = some g.1 := by rw [← h.nm, List.getElem?_map, hg]; rfl
 have hv := (h.vs g (List.mem_of_getElem? hg)).1
 unfold suAt
 rw [hg]
 simp only [hv, Bool.and_true]
 have hn : nameV g.1 = true := (by decide : ∀ y ∈ gnmL, nameV y = true) g.1 (List.mem_of_getElem? hgn)
 rw [hn, Bool.true_and]
 by_cases h0 : i = 0
 ·simp [h0]
 ·obtain ⟨y, hy⟩ : ∃ y, s[i - 1]? = some y := ⟨_, List.getElem?_eq_getElem (by omega)⟩
  have hyn : gnmL[i - 1]? = some y.1 := by rw [← h.nm, List.getElem?_map, hy]; rfl
  rw [hy]
  simp only [h0, decide_false, Bool.false_or]
  have hi5 : i < 5 := by omega
  have key : ∀ i, i < 5 → i ≠ 0 → ∀ a b, gnmL[i - 1]? = some a → gnmL[i]? = some b → Op.bytesLess a b = true := by
   intro i hi h0 a b ha hb
   match i, hi, h0 with
   | 1, _, _ => simp [gnmL] at ha hb; subst ha hb; decide
   | 2, _, _ => simp [gnmL] at ha hb; subst ha hb; decide
   | 3, _, _ => simp [gnmL] at ha hb; subst ha hb; decide
   | 4, _, _ => simp [gnmL] at ha hb; subst ha hb; decide
   | 0, _, h0 => exact absurd rfl h0
   | n + 5, h, _ => omega
  exact key i hi5 h0 _ _ hyn hgn
end Go.Proofs.YteekfnhhlcmcgaaGreatDoor
