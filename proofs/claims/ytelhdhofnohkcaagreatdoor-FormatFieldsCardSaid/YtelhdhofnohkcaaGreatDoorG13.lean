/- Part of a proof: see the last text. -/
import Derived.Test.YtelhdhofnohkcaaGreatDoorG12
import Derived.Test.YtelhdhofnohkcaaGreatDoorG08
import Derived.Test.YtelhdhofnohkcaaGreatDoorG03
set_option linter.unusedVariables false
set_option linter.unusedSimpArgs false
namespace Go.Proofs.YtelhdhofnohkcaaGreatDoor
open Go.Eng Go.Fm
set_option maxRecDepth 20000
attribute [local irreducible] AG CallA CallT AWp PCall ACall AgC
theorem showB_len {n : Int} (h : InR n) : (showB 10 n).length ≤ 65 := by
 have h1 : n.natAbs < 2 ^ 64 := by unfold InR at h; omega
 have h2 := txt_len (b := 10) (by decide) h1
 unfold showB
 split
 ·rw [List.length_cons]; omega
 ·omega
theorem tmod_in {n : Int} (k : Int) (h : InR n) (hk : 0 < k) (hk2 : k ≤ 100000) : InR (n.tmod k) := by
 have h1 := Int.tmod_lt_of_pos n hk
 have h2 : -k < n.tmod k := by
  have := Int.lt_tmod_of_pos n hk
  omega
 unfold InR; omega
theorem last_ok {p : Pk} (hp : PkOk p) : AgOk (lastA p) := by
 obtain ⟨_, _, _, _, p5, _⟩ := hp
 refine ⟨?_, ?_⟩
 ·show InR (lastN p)
  unfold lastN
  split
  ·exact tmod_in 1000 p5 (by decide) (by decide)
  ·exact p5
 ·show (lastX p).length ≤ 1100000
  unfold lastX
  split
  ·have := showB_len p5; omega
  ·rw [List.length_take]; omega
theorem made_len (p : Pk) (named : Bool) : (madeT p named).length ≤ 40 := by
 have h1 := head_len p named
 have h2 := flags_len p.fl 5
 have hw := mdU_lt p.wd (m := 16) (by decide)
 have hq := mdU_lt p.pr (m := 16) (by decide)
 have h3 : (widT named (mdU p.wd 16)).length ≤ 2 := by
  unfold widT
  split
  ·simp
  ·split
   ·exact show_small (by omega) (by omega)
   ·simp
 have h4 : (preT named (mdU p.pr 16)).length ≤ 3 := by
  unfold preT
  split
  ·simp
  ·split
   ·simp
   ·split
    ·have := show_small (n := (mdU p.pr 16 : Int) - 8) (by omega) (by omega)
     rw [List.length_cons]; omega
    ·simp
 have h5 : (letT p).length ≤ 1 := by unfold letT; simp; omega
 unfold madeT
 simp only [List.length_append]
 omega
end Go.Proofs.YtelhdhofnohkcaaGreatDoor
namespace Go.Proofs.YtelhdhofnohkcaaGreatDoor
open Go.Eng Go.WideShapes Go.Fm
set_option maxRecDepth 100000
/-! picks -/
theorem oz_pick : OpensZ Tryz.prog 30 cPk PkOk := by
 have h := jW (e := 7) Tryz.underlying30 rfl (by kernel_rfl) (zi (n := 1) rfl (by kernel_rfl) oz_int (zi (n := 1) rfl (by kernel_rfl) oz_int (zi (n := 1) rfl (by kernel_rfl) oz_int (zi (n := 1) rfl (by kernel_rfl) oz_int (zi (n := 1) rfl (by kernel_rfl) oz_int (zi (n := 1) rfl (by kernel_rfl) oz_int (zi (n := 1) rfl (by kernel_rfl) oz_str kD)))))))
 exact h.iso (fun x => ⟨x.1, x.2.1, x.2.2.1, x.2.2.2.1, x.2.2.2.2.1, x.2.2.2.2.2.1, x.2.2.2.2.2.2.1⟩) (fun _ => rfl) (fun _ q => ⟨q.1, q.2.1, q.2.2.1, q.2.2.2.1, q.2.2.2.2.1, q.2.2.2.2.2.1⟩)
theorem oz_picks : OpensZ Tryz.prog 22 (fun l : List Pk => [D.sl 7 (l.map cPk)]) (fun l => ∀ p ∈ l, PkOk p) :=
 (xN 7 Tryz.underlying22 (by kernel_rfl) (by decide) (fun _ => rfl) oz_pick).iso (fun l => l) (fun _ => rfl) (fun l h => h.2.2)
theorem ovz_picks : OpensZV Tryz.prog 22 (fun l : List Pk => D.sl 7 (l.map cPk)) (fun l => ∀ p ∈ l, PkOk p) := jf (by rw [Tryz.underlying22]; rfl) oz_picks
end Go.Proofs.YtelhdhofnohkcaaGreatDoor
namespace Go.Fm
/-! a field with a width -/
/-! a field that the laws make, read back -/
theorem flagR_app (F : List UInt8) (c : UInt8) (r : List UInt8) (hc : isFl c = false) : ∀ (f : Fld), F.all isFl = true → flagR f (F ++ c :: r) = ((flagR f F).1, c :: r) := by
 induction F with
 | nil =>
  intro f _
  simp only [isFl, Bool.or_eq_false_iff, beq_eq_false_iff_ne] at hc
  obtain ⟨⟨⟨⟨h1, h2⟩, h3⟩, h4⟩, h5⟩ := hc
  simp [flagR, h1, h2, h3, h4, h5]
 | cons x F ih =>
  intro f hF
  simp only [List.all_cons, Bool.and_eq_true] at hF
  have hx := hF.1
  simp only [isFl, Bool.or_eq_true, beq_iff_eq] at hx
  rcases hx with (((hx | hx) | hx) | hx) | hx <;> subst hx <;> simp [flagR, ih _ hF.2]
theorem flagR_keep (F : List UInt8) : ∀ (f : Fld), (flagR f F).1.nm = f.nm ∧ (flagR f F).1.tx = f.tx := by
 induction F with
 | nil => intro f; exact ⟨rfl, rfl⟩
 | cons x F ih =>
  intro f
  unfold flagR
  repeat' split
  all_goals first | exact ⟨(ih _).1, (ih _).2⟩ | exact ⟨rfl, rfl⟩
theorem digR_app (c : UInt8) (r : List UInt8) (hc : isDig c = false) : ∀ (D : List UInt8) (n : Nat) (a : Bool), D.all isDig = true → digR n a (D ++ c :: r) = ((digR n a D).1, (digR n a D).2.1, c :: r) := by
 intro D
 induction D with
 | nil => intro n a _; simp [digR, hc]
 | cons x D ih =>
  intro n a h
  simp only [List.all_cons, Bool.and_eq_true] at h
  simp [digR, h.1, ih _ _ h.2]
theorem digits_app (m : Int) {c : UInt8} (r : List UInt8) (hc : isDig c = false) {D : List UInt8} {n : Nat} (hD : D.all isDig = true) (hq : digR 0 false D = (n, true, [])) (hn : n ≤ 1000) (h42 : pk D ≠ 42) (hne : D ≠ []) :
  digitsV m (D ++ c :: r) = ((n : Int), true, c :: r) := by
 have e : pk (D ++ c :: r) = pk D := by cases D with
  | nil => exact absurd rfl hne
  | cons x D => rfl
 unfold digitsV
 rw [e, if_neg h42]
 simp only [digR_app c r hc D 0 false hD, hq]
 simp [hn]
theorem digits_no (m : Int) {c : UInt8} (r : List UInt8) (hc : isDig c = false) (h42 : c ≠ 42) : digitsV m (c :: r) = (m, true, c :: r) := by
 unfold digitsV
 rw [if_neg (show ¬ pk (c :: r) = 42 from h42)]
 simp [digR, hc]
def widP (w : Nat) : List UInt8 := if w < 6 then [] else if w < 14 then showB 10 (w - 3 : Int) else [42]
def wdP (w : Nat) : Int := if w < 6 then -1 else if w < 14 then (w - 3 : Nat) else -2
def preP (q : Nat) : List UInt8 := if q < 7 then [] else if q = 7 then [46] else if q < 14 then 46 :: showB 10 (q - 8 : Int) else [46, 42]
def prP (q : Nat) : Int := if q < 7 then -1 else if q = 7 then 0 else if q < 14 then (q - 8 : Nat) else -2
theorem tab_dig : ((List.range 11).all fun k => decide ((showB 10 (k : Nat)).all isDig = true ∧ digR 0 false (showB 10 (k : Nat)) = (k, true, []) ∧ pk (showB 10 (k : Nat)) ≠ 42 ∧ pk (showB 10 (k : Nat)) ≠ 60 ∧ pk (showB 10 (k : Nat)) ≠ 37 ∧ showB 10 (k : Nat) ≠ [] ∧ (3 ≤ k → isFl (pk (showB 10 (k : Nat))) = false))) = true := by decide +kernel
theorem dig_tab {k : Nat} (h : k < 11) : (showB 10 (k : Nat)).all isDig = true ∧ digR 0 false (showB 10 (k : Nat)) = (k, true, []) ∧ pk (showB 10 (k : Nat)) ≠ 42 ∧ pk (showB 10 (k : Nat)) ≠ 60 ∧ pk (showB 10 (k : Nat)) ≠ 37 ∧ showB 10 (k : Nat) ≠ [] ∧ (3 ≤ k → isFl (pk (showB 10 (k : Nat))) = false) :=
 of_decide_eq_true (List.all_eq_true.1 tab_dig k (List.mem_range.2 h))
theorem wid_read {w : Nat} (hw : w < 16) {c : UInt8} (r : List UInt8) (hc : isDig c = false) (h42 : c ≠ 42) : digitsV (-1) (widP w ++ c :: r) = (wdP w, true, c :: r) := by
 unfold widP wdP
 by_cases h6 : w < 6
 ·rw [if_pos h6, if_pos h6]; exact digits_no _ r hc h42
 ·rw [if_neg h6, if_neg h6]
  by_cases h14 : w < 14
  ·rw [if_pos h14, if_pos h14, show ((w : Int) - 3) = ((w - 3 : Nat) : Int) by omega]
   obtain ⟨h1, h2, h3, _, _, h5, _⟩ := dig_tab (k := w - 3) (by omega)
   exact digits_app _ r hc h1 h2 (by omega) h3 h5
  ·rw [if_neg h14, if_neg h14]; rfl
theorem pre_read {q : Nat} (hq : q < 16) {c : UInt8} (r : List UInt8) (hc : isDig c = false) (h42 : c ≠ 42) (h46 : c ≠ 46) : precV (preP q ++ c :: r) = (prP q, true, c :: r) := by
 unfold preP prP
 by_cases h7 : q < 7
 ·rw [if_pos h7, if_pos h7]
  unfold precV
  rw [if_neg (show ¬ pk ([] ++ c :: r) = 46 from h46)]
  rfl
 ·rw [if_neg h7, if_neg h7]
  by_cases h77 : q = 7
  ·rw [if_pos h77, if_pos h77]
   exact digits_no 0 r hc h42
  ·rw [if_neg h77, if_neg h77]
   by_cases h14 : q < 14
   ·rw [if_pos h14, if_pos h14, show ((q : Int) - 8) = ((q - 8 : Nat) : Int) by omega]
    obtain ⟨h1, h2, h3, _, _, h5, _⟩ := dig_tab (k := q - 8) (by omega)
    exact digits_app 0 r hc h1 h2 (by omega) h3 h5
   ·rw [if_neg h14, if_neg h14]; rfl
def fldP (F : List UInt8) (w q : Nat) (c : UInt8) : Fld := { (flagR fd0 F).1 with wd := wdP w, pr := prP q, lt := c }
theorem lets_facts : (lets.all fun c => decide (isDig c = false ∧ c ≠ 42 ∧ c ≠ 46 ∧ isFl c = false ∧ c ≠ 60 ∧ c ≠ 0 ∧ c ≠ 37)) = true := by decide +kernel
theorem pk_app {a b : List UInt8} (h : a ≠ []) : pk (a ++ b) = pk a := by cases a with
 | nil => exact absurd rfl h
 | cons x a => rfl
theorem tail_head {w q : Nat} (hw : w < 16) (hq : q < 16) {c : UInt8} (r : List UInt8) (hc : c ∈ lets) {z : UInt8} (hz : z = 60 ∨ z = 37) : isFl (pk (widP w ++ (preP q ++ c :: r))) = false ∧ pk (widP w ++ (preP q ++ c :: r)) ≠ z ∧ isDig (pk (preP q ++ c :: r)) = false ∧ pk (preP q ++ c :: r) ≠ 42 := by
 obtain ⟨l1, l2, l3, l4, l5, l6, l7⟩ := of_decide_eq_true (List.all_eq_true.1 lets_facts c hc)
 have hp : isFl (pk (preP q ++ c :: r)) = false ∧ pk (preP q ++ c :: r) ≠ z ∧ isDig (pk (preP q ++ c :: r)) = false ∧ pk (preP q ++ c :: r) ≠ 42 := by
  unfold preP
  split
  ·exact ⟨l4, (show c ≠ z from hz.elim (fun e => by rw [e]; exact l5) (fun e => by rw [e]; exact l7)), l1, l2⟩
  ·have : ∀ s, isFl (pk (46 :: s ++ c :: r)) = false ∧ pk (46 :: s ++ c :: r) ≠ z ∧ isDig (pk (46 :: s ++ c :: r)) = false ∧ pk (46 :: s ++ c :: r) ≠ 42 := fun s => by
    show isFl 46 = false ∧ (46 : UInt8) ≠ z ∧ isDig 46 = false ∧ (46 : UInt8) ≠ 42
    rcases hz with rfl | rfl <;> decide
   split
   ·exact this []
   ·split
    ·exact this _
    ·exact this [42]
 refine ⟨?_, ?_, hp.2.2.1, hp.2.2.2⟩
 ·unfold widP
  split
  ·exact hp.1
  ·split
   ·rw [show ((w : Int) - 3) = ((w - 3 : Nat) : Int) by omega]
    obtain ⟨_, _, _, _, _, h5, h6⟩ := dig_tab (k := w - 3) (by omega)
    rw [pk_app h5]
    exact h6 (by omega)
   ·show isFl 42 = false
    decide
 ·unfold widP
  split
  ·exact hp.2.1
  ·split
   ·rw [show ((w : Int) - 3) = ((w - 3 : Nat) : Int) by omega]
    obtain ⟨_, _, _, h4, h4', h5, _⟩ := dig_tab (k := w - 3) (by omega)
    rw [pk_app h5]
    rcases hz with rfl | rfl
    ·exact h4
    ·exact h4'
   ·show (42 : UInt8) ≠ z
    rcases hz with rfl | rfl <;> decide
theorem cons_pk {s : List UInt8} (h : s ≠ []) : s = pk s :: s.tail := by cases s with
 | nil => exact absurd rfl h
 | cons a b => rfl
theorem field_made {F : List UInt8} (hF : F.all isFl = true) {w q : Nat} (hw : w < 16) (hq : q < 16) {c : UInt8} (r : List UInt8) (hc : c ∈ lets) :
  fieldV (F ++ widP w ++ preP q ++ c :: r) = some (fldP F w q c, r) ∧ pk (F ++ widP w ++ preP q ++ c :: r) ≠ 37 := by
 obtain ⟨l1, l2, l3, l4, l5, l6, l7⟩ := of_decide_eq_true (List.all_eq_true.1 lets_facts c hc)
 obtain ⟨t1, t2, t3, t4⟩ := tail_head hw hq r hc (z := 60) (.inl rfl)
 have t5 := (tail_head hw hq r hc (z := 37) (.inr rfl)).2.1
 have e : F ++ widP w ++ preP q ++ c :: r = F ++ (widP w ++ (preP q ++ c :: r)) := by simp
 rw [e]
 have hne : preP q ++ c :: r ≠ [] := by simp
 have hne2 : widP w ++ (preP q ++ c :: r) ≠ [] := by simp
 have h60 : pk (F ++ (widP w ++ (preP q ++ c :: r))) ≠ 60 := by
  cases F with
  | nil => exact t2
  | cons x F =>
   simp only [List.all_cons, Bool.and_eq_true] at hF
   intro h
   have h : x = 60 := h
   subst h
   exact absurd hF.1 (by decide)
 have h37 : pk (F ++ (widP w ++ (preP q ++ c :: r))) ≠ 37 := by
  cases F with
  | nil => exact t5
  | cons x F =>
   simp only [List.all_cons, Bool.and_eq_true] at hF
   intro h
   have h : x = 37 := h
   subst h
   exact absurd hF.1 (by decide)
 refine ⟨?_, h37⟩
 have hfl : flagR { fd0 with nm := [] } (F ++ (widP w ++ (preP q ++ c :: r))) = ((flagR fd0 F).1, widP w ++ (preP q ++ c :: r)) := by
  rw [cons_pk hne2]
  exact flagR_app F _ _ t1 fd0 hF
 have hwd : digitsV (-1) (widP w ++ (preP q ++ c :: r)) = (wdP w, true, preP q ++ c :: r) := by
  rw [cons_pk hne]
  exact wid_read hw _ t3 t4
 have hpr := pre_read hq r l1 l2 l3
 unfold fieldV nameV
 rw [if_pos h60]
 simp only [hfl, hwd, hpr]
 have hpk : pk (c :: r) = c := rfl
 rw [hpk]
 simp only [Bool.true_eq_false, if_false]
 rw [if_pos ⟨l6, hc, fun _ => trivial⟩]
 rfl
/-! a format put together of escaped texts and fields, read -/
def Made (X : List UInt8) (f : Fld) : Prop := f.nm = [] ∧ f.lt ≠ 0 ∧ ∀ r, fieldV (X ++ r) = some (f, r) ∧ pk (X ++ r) ≠ 37
theorem read_text : ∀ (n : Nat) (s : List UInt8) (k : Nat) (out : List Fld) (a b : Bool) (r : List UInt8), s.length ≤ n → (escV s ++ 37 :: r).length < k →
  ∃ k' Ls, (37 :: r).length < k' ∧ Pl Ls ∧ joinV Ls = s ∧ readF k (escV s ++ 37 :: r) out a b = readF k' (37 :: r) (out ++ Ls) a b := by
 intro n
 induction n with
 | zero =>
  intro s k out a b r hn hk
  have : s = [] := List.length_eq_zero_iff.1 (by omega)
  subst this
  exact ⟨k, [], by simpa [escV] using hk, (by intro f hf; cases hf), rfl, by simp [escV]⟩
 | succ n ih =>
  intro s k out a b r hn hk
  obtain ⟨k, rfl⟩ : ∃ k', k = k' + 1 := ⟨k - 1, by omega⟩
  rcases split37 s with h | ⟨x, y, e, h⟩
  ·rw [esc_no h] at hk ⊢
   by_cases hs : s = []
   ·subst hs
    exact ⟨k + 1, [], by simpa using hk, (by intro f hf; cases hf), rfl, by simp⟩
   ·have hl : 0 < s.length := List.length_pos_iff.2 hs
    refine ⟨k, [fdT s], ?_, pl_snoc (L := []) (by intro f hf; cases hf) s, by simp [joinV, fdT], st_text h hs⟩
    simp only [List.length_append, List.length_cons] at hk ⊢
    omega
  ·subst e
   rw [esc_app, esc_no h, esc_cons37] at hk ⊢
   simp only [List.length_append, List.length_cons] at hk hn
   by_cases hx : x = []
   ·subst hx
    simp only [List.nil_append, List.cons_append]
    rw [st_pct]
    obtain ⟨k', Ls, h1, h2, h3, h4⟩ := ih y k (out ++ [fdT [37]]) a b r (by simp at hn; omega) (by simp only [List.length_append, List.length_cons]; simp at hk; omega)
    refine ⟨k', fdT [37] :: Ls, h1, ?_, ?_, ?_⟩
    ·intro f hf
     rcases List.mem_cons.1 hf with rfl | hf
     ·exact ⟨rfl, rfl⟩
     ·exact h2 f hf
    ·show [37] ++ joinV Ls = _; rw [h3]; rfl
    ·rw [h4]; simp
   ·have hl : 0 < x.length := List.length_pos_iff.2 hx
    obtain ⟨k, rfl⟩ : ∃ k', k = k' + 1 := ⟨k - 1, by omega⟩
    rw [show x ++ 37 :: 37 :: escV y ++ 37 :: r = x ++ 37 :: (37 :: (escV y ++ 37 :: r)) by simp, st_text h hx, st_pct]
    obtain ⟨k', Ls, h1, h2, h3, h4⟩ := ih y k (out ++ [fdT x] ++ [fdT [37]]) a b r (by omega) (by simp only [List.length_append, List.length_cons]; omega)
    refine ⟨k', fdT x :: fdT [37] :: Ls, h1, ?_, ?_, ?_⟩
    ·intro f hf
     rcases List.mem_cons.1 hf with rfl | hf
     ·exact ⟨rfl, rfl⟩
     ·rcases List.mem_cons.1 hf with rfl | hf
      ·exact ⟨rfl, rfl⟩
      ·exact h2 f hf
    ·show x ++ ([37] ++ joinV Ls) = _; rw [h3]; rfl
    ·rw [h4]; simp
def Pieces (t : List UInt8) : List (List UInt8 × Fld) → List Fld → Prop
 | [], Ls => Ls = []
 | p :: ps, Ls => ∃ Tl Ls', Ls = Tl ++ p.2 :: Ls' ∧ Pl Tl ∧ joinV Tl = t ∧ Pieces t ps Ls'
def formP (t : List UInt8) (ps : List (List UInt8 × Fld)) : List UInt8 := ps.flatMap fun p => escV t ++ 37 :: p.1
theorem read_form (t : List UInt8) : ∀ (ps : List (List UInt8 × Fld)) (k : Nat) (out : List Fld) (b : Bool), (∀ p ∈ ps, Made p.1 p.2) → (formP t ps).length < k →
  ∃ Ls, readF k (formP t ps) out false b = some (out ++ Ls) ∧ Pieces t ps Ls := by
 intro ps
 induction ps with
 | nil =>
  intro k out b _ hk
  obtain ⟨k, rfl⟩ : ∃ k', k = k' + 1 := ⟨k - 1, by omega⟩
  refine ⟨[], ?_, rfl⟩
  show readF (k + 1) [] out false b = _
  unfold readF
  simp
 | cons p ps ih =>
  intro k out b hm hk
  have e : formP t (p :: ps) = escV t ++ 37 :: (p.1 ++ formP t ps) := by simp [formP]
  rw [e] at hk ⊢
  obtain ⟨k', Tl, h1, h2, h3, h4⟩ := read_text t.length t k out false b _ (Nat.le_refl _) hk
  obtain ⟨m1, m2, m3⟩ := hm p (by simp)
  obtain ⟨m3, m4⟩ := m3 (formP t ps)
  obtain ⟨k', rfl⟩ : ∃ k'', k' = k'' + 1 := ⟨k' - 1, by omega⟩
  rw [h4, st_fld m4, m3]
  simp only [m1]
  obtain ⟨Ls, h5, h6⟩ := ih k' (out ++ Tl ++ [p.2]) (b || true) (fun q hq => hm q (by simp [hq])) (by
   simp only [List.length_cons, List.length_append] at h1; omega)
  refine ⟨Tl ++ p.2 :: Ls, ?_, Tl, Ls, rfl, h2, h3, h6⟩
  have : (false || (([] : List UInt8) != [])) = false := rfl
  rw [this]
  have : (b || (([] : List UInt8) == [])) = (b || true) := rfl
  rw [this, h5]
  simp
theorem ve {t : List UInt8} {ps : List (List UInt8 × Fld)} (hm : ∀ p ∈ ps, Made p.1 p.2) (hl : (formP t ps).length ≤ 2000) : ∃ Ls, readV (formP t ps) = some Ls ∧ Pieces t ps Ls := by
 obtain ⟨Ls, h1, h2⟩ := read_form t ps ((formP t ps).length + 1) [] false hm (by omega)
 refine ⟨Ls, ?_, h2⟩
 unfold readV
 rw [if_neg (by omega), h1]
 simp
/-! a field with its own arguments, and among others -/
def Fit (A : List Ag) (f : Fld) : Prop := f.nm = [] ∧ f.lt ≠ 0 ∧ A.length = (if f.wd = -2 then 1 else 0) + (if f.pr = -2 then 1 else 0) + 1
theorem getu {α : Type} {pre A post : List α} {i : Nat} (h : i < A.length) : (pre ++ A ++ post)[pre.length + i]? = A[i]? := by
 rw [List.append_assoc, List.getElem?_append_right (by omega), List.getElem?_append_left (by omega)]
 congr 1; omega
theorem starW_sh {pre A post : List Ag} {i : Nat} {f : Fld} (h : i < A.length) :
  starW (pre ++ A ++ post) (pre.length + i) f = ((starW A i f).1, pre.length + (starW A i f).2.1, (starW A i f).2.2) ∧ (starW A i f).2.1 = i + (if f.wd = -2 then 1 else 0) ∧ (starW A i f).2.2.pr = f.pr ∧ (starW A i f).2.2.nm = f.nm := by
 unfold starW
 by_cases hw : f.wd ≠ -2
 ·rw [if_pos hw, if_pos hw, if_neg hw]; exact ⟨rfl, rfl, rfl, rfl⟩
 ·rw [if_neg hw, if_neg hw, if_pos (by omega), getu h, List.getElem?_eq_getElem h]
  simp only
  split
  ·exact ⟨by rw [Nat.add_assoc], rfl, rfl, rfl⟩
  ·split
   ·exact ⟨by rw [Nat.add_assoc], rfl, rfl, rfl⟩
   ·exact ⟨by rw [Nat.add_assoc], rfl, rfl, rfl⟩
theorem Qa {pre A post : List Ag} {i : Nat} {f : Fld} (h : i < A.length) :
  starP (pre ++ A ++ post) (pre.length + i) f = ((starP A i f).1, pre.length + (starP A i f).2.1, (starP A i f).2.2) ∧ (starP A i f).2.1 = i + (if f.pr = -2 then 1 else 0) ∧ (starP A i f).2.2.nm = f.nm := by
 unfold starP
 by_cases hw : f.pr ≠ -2
 ·rw [if_pos hw, if_pos hw, if_neg hw]; exact ⟨rfl, rfl, rfl⟩
 ·rw [if_neg hw, if_neg hw, if_pos (by omega), getu h, List.getElem?_eq_getElem h]
  simp only
  split
  ·exact ⟨by rw [Nat.add_assoc], rfl, rfl⟩
  ·split
   ·exact ⟨by rw [Nat.add_assoc], rfl, rfl⟩
   ·exact ⟨by rw [Nat.add_assoc], rfl, rfl⟩
theorem fill_sh {pre A post : List Ag} {f : Fld} (h : Fit A f) :
  fillV (pre ++ A ++ post) pre.length f = ((fillV A 0 f).1, (fillV A 0 f).2.1, pre.length + (fillV A 0 f).2.2) ∧ ((fillV A 0 f).2.1 = 0 → (fillV A 0 f).2.2 = A.length) := by
 obtain ⟨h1, h2, h3⟩ := h
 have hA : 0 < A.length := by omega
 obtain ⟨w1, w2, w3, w4⟩ := starW_sh (pre := pre) (post := post) (f := f) hA
 rw [Nat.add_zero] at w1
 have hi : (starW A 0 f).2.1 < A.length := by rw [w2, h3]; split <;> split <;> omega
 obtain ⟨p1, p2, p3⟩ := Qa (pre := pre) (post := post) (f := (starW A 0 f).2.2) hi
 have hs : starsV (pre ++ A ++ post) pre.length f = ((starsV A 0 f).1, pre.length + (starsV A 0 f).2.1, (starsV A 0 f).2.2) := by
  unfold starsV
  simp only [w1]
  split
  ·rfl
  ·exact p1
 unfold fillV
 rw [if_neg h2, if_neg h2]
 simp only [hs]
 by_cases he : (starsV A 0 f).1 ≠ 0
 ·rw [if_pos he, if_pos he]
  exact ⟨rfl, fun h => absurd h he⟩
 ·rw [if_neg he, if_neg he]
  have hw0 : ¬ (starW A 0 f).1 ≠ 0 := by
   intro hq
   apply he
   unfold starsV
   simp only
   rw [if_pos hq]; exact hq
  have hst : starsV A 0 f = starP A (starW A 0 f).2.1 (starW A 0 f).2.2 := by
   unfold starsV
   simp only
   rw [if_neg hw0]
  rw [hst]
  have hi2 : (starP A (starW A 0 f).2.1 (starW A 0 f).2.2).2.1 + 1 = A.length := by
   rw [p2, w2, w3, h3]; omega
  rw [h1]
  generalize (starP A (starW A 0 f).2.1 (starW A 0 f).2.2).2.1 = i2 at *
  have hlt : i2 < A.length := by omega
  have o1 : ofA (pre ++ A ++ post) (pre.length + i2) [] = (A[i2], 0, pre.length + i2 + 1) := by
   unfold ofA; rw [if_pos rfl, getu hlt, List.getElem?_eq_getElem hlt]
  have o2 : ofA A i2 [] = (A[i2], 0, i2 + 1) := by
   unfold ofA; rw [if_pos rfl, List.getElem?_eq_getElem hlt]
  rw [o1, o2]
  simp only
  rw [if_neg (show ¬ (0 : Nat) ≠ 0 by simp), if_neg (show ¬ (0 : Nat) ≠ 0 by simp)]
  cases putV (starP A (starW A 0 f).2.1 (starW A 0 f).2.2).2.2 A[i2] with
  | none => exact ⟨by simp only; rw [Nat.add_assoc], fun h => by simp at h⟩
  | some t => exact ⟨by simp only; rw [Nat.add_assoc], fun _ => hi2⟩
structure It where
 x : List UInt8
 f : Fld
 a : List Ag
def It.ok (i : It) : Prop := Made i.x i.f ∧ Fit i.a i.f ∧ (fillV i.a 0 i.f).1.length ≤ 6000
def It.err (i : It) : Nat := (fillV i.a 0 i.f).2.1
def It.txt (i : It) : List UInt8 := (fillV i.a 0 i.f).1
theorem fills_cons (args : List Ag) (f : Fld) (M : List Fld) (u : Nat) (out : List UInt8) : fillsV args (f :: M) u out = if (fillV args u f).2.1 ≠ 0 then ([], 0, (fillV args u f).2.1) else if 100000 < (out ++ (fillV args u f).1).length then ([], 0, 1) else fillsV args M (fillV args u f).2.2 (out ++ (fillV args u f).1) := rfl
theorem fills_pl (args : List Ag) (Tl M : List Fld) (u : Nat) : ∀ (out : List UInt8), Pl Tl → (out ++ joinV Tl).length ≤ 100000 → fillsV args (Tl ++ M) u out = fillsV args M u (out ++ joinV Tl) := by
 induction Tl with
 | nil => intro out _ _; simp [joinV]
 | cons f L ih =>
  intro out h hl
  have hf := (h f (by simp)).1
  have e : joinV (f :: L) = f.tx ++ joinV L := by simp [joinV]
  rw [e] at hl ⊢
  have q : fillV args u f = (f.tx, 0, u) := by unfold fillV; rw [if_pos hf]
  simp only [List.length_append] at hl
  show fillsV args (f :: (L ++ M)) u out = _
  rw [fills_cons, q]
  simp only
  rw [if_neg (by simp), if_neg (by simp only [List.length_append]; omega), ih (out ++ f.tx) (fun g hg => h g (by simp [hg])) (by simp only [List.length_append]; omega), List.append_assoc]
def argsP (ps : List It) : List Ag := ps.flatMap (·.a)
def wantP (t : List UInt8) (ps : List It) : List UInt8 := ps.flatMap fun p => t ++ p.txt
def pairP (ps : List It) : List (List UInt8 × Fld) := ps.map fun p => (p.x, p.f)
theorem fills_form (t : List UInt8) (ht : t.length ≤ 30) : ∀ (ps : List It) (Ls : List Fld) (pre : List Ag) (out : List UInt8), (∀ p ∈ ps, p.ok) → Pieces t (pairP ps) Ls → out.length + 6030 * ps.length ≤ 100000 →
  if (ps.all fun p => p.err == 0) then ∃ n, fillsV (pre ++ argsP ps) Ls pre.length out = (out ++ wantP t ps, n, 0) else (fillsV (pre ++ argsP ps) Ls pre.length out).2.2 ≠ 0 := by
 intro ps
 induction ps with
 | nil =>
  intro Ls pre out _ hp _
  have : Ls = [] := hp
  subst this
  exact ⟨pre.length, by simp [fillsV, wantP]⟩
 | cons p ps ih =>
  intro Ls pre out hok hp hl
  obtain ⟨Tl, Ls', e, h1, h2, h3⟩ := hp
  subst e
  obtain ⟨m, ft, hx⟩ := hok p (by simp)
  have hx : p.txt.length ≤ 6000 := hx
  simp only [List.length_cons] at hl
  have ea : pre ++ argsP (p :: ps) = pre ++ p.a ++ argsP ps := by simp [argsP]
  rw [fills_pl _ Tl _ _ out h1 (by rw [h2, List.length_append]; omega), h2, ea]
  have hs := fill_sh (pre := pre) (post := argsP ps) ft
  have hstep : fillsV (pre ++ p.a ++ argsP ps) (p.f :: Ls') pre.length (out ++ t) = if p.err ≠ 0 then ([], 0, p.err) else fillsV (pre ++ p.a ++ argsP ps) Ls' (pre.length + (fillV p.a 0 p.f).2.2) (out ++ t ++ p.txt) := by
   rw [fills_cons, hs.1]
   show (if p.err ≠ 0 then ([], 0, p.err) else if 100000 < (out ++ t ++ p.txt).length then _ else _) = _
   by_cases he : p.err ≠ 0
   ·rw [if_pos he, if_pos he]
   ·rw [if_neg he, if_neg he, if_neg (by simp only [List.length_append]; omega)]; rfl
  by_cases he : p.err = 0
  ·have hu : (fillV p.a 0 p.f).2.2 = p.a.length := hs.2 he
   have hk := ih Ls' (pre ++ p.a) (out ++ t ++ p.txt) (fun q hq => hok q (by simp [hq])) h3 (by simp only [List.length_append]; omega)
   have hst2 : fillsV (pre ++ p.a ++ argsP ps) (p.f :: Ls') pre.length (out ++ t) = fillsV (pre ++ p.a ++ argsP ps) Ls' (pre ++ p.a).length (out ++ t ++ p.txt) := by
    rw [hstep, if_neg (fun h => h he), hu, List.length_append]
   rw [hst2]
   have ew : wantP t (p :: ps) = t ++ p.txt ++ wantP t ps := by simp [wantP]
   have ec : ((p :: ps).all fun p => p.err == 0) = (ps.all fun p => p.err == 0) := by simp [he]
   rw [ec, ew]
   split at hk
   ·rename_i h
    rw [if_pos h]
    obtain ⟨n, hn⟩ := hk
    exact ⟨n, by rw [hn]; simp⟩
   ·rename_i h
    rw [if_neg h]
    exact hk
  ·have ec : ((p :: ps).all fun p => p.err == 0) = false := by simp [he]
   have hst2 : fillsV (pre ++ p.a ++ argsP ps) (p.f :: Ls') pre.length (out ++ t) = ([], 0, p.err) := by
    rw [hstep, if_pos he]
   rw [hst2, ec]
   simpa using he
end Go.Fm
namespace Go.Proofs.YtelhdhofnohkcaaGreatDoor
open Go.Eng Go.Fm
set_option maxRecDepth 20000
attribute [local irreducible] AG CallA CallT AWp PCall ACall AgC
/-! a made field: how long what it is filled with may be; a format of made fields -/
theorem ofA_tx {args : List Ag} (h : ∀ a ∈ args, a.tx.length ≤ 65) (u : Nat) (nm : Bs) : (ofA args u nm).1.tx.length ≤ 65 := by
 unfold ofA
 split
 ·split
  ·simp [ag0]
  ·rename_i a ha
   exact h a (List.mem_of_getElem? ha)
 ·split
  ·simp [ag0]
  ·rename_i a ha
   exact h a (List.mem_of_find?_eq_some ha)
theorem num_small {f : Fld} {n : Int} (hn : InR n) (hw : f.wd ≤ 1000) (hp : f.pr ≤ 1000) : (numV f n).length ≤ 5000 := by
 have hd : (digsV f n).length ≤ 1100 := by
  have hl := txt_len (b := baseV f.lt) (by unfold baseV; (repeat' split) <;> omega) (n := n.natAbs) (by simp only [InR] at hn; omega)
  unfold digsV
  simp only
  have h1 : (if f.lt = 88 then (txtB (baseV f.lt) n.natAbs).map upC else txtB (baseV f.lt) n.natAbs).length ≤ 64 := by split <;> simpa using hl
  generalize (if f.lt = 88 then (txtB (baseV f.lt) n.natAbs).map upC else txtB (baseV f.lt) n.natAbs) = d at *
  have h2 : (if f.pr = 0 ∧ n = 0 then [] else d).length ≤ 64 := by
   split
   ·simp
   ·exact h1
  generalize (if f.pr = 0 ∧ n = 0 then [] else d) = d2 at *
  split
  ·rw [List.length_append, rep_len]; omega
  ·omega
 have hs : (signV f n).length ≤ 1 := by
  unfold signV
  (repeat' split) <;> simp
 have hpl : (if f.ha ∧ n ≠ 0 ∧ f.lt ≠ 100 then Go.Fm.preV f.lt (digsV f n) else []).length ≤ 2 := by
  unfold Go.Fm.preV
  (repeat' split) <;> simp
 unfold numV
 simp only
 generalize digsV f n = d at *
 generalize (if f.ha ∧ n ≠ 0 ∧ f.lt ≠ 100 then Go.Fm.preV f.lt d else []) = q at *
 generalize signV f n = sg at *
 refine Nat.le_trans (padded_len hw _) ?_
 have hfr : (sg ++ q).length ≤ 3 := by rw [List.length_append]; omega
 generalize sg ++ q = fr at *
 rw [List.length_append]
 split
 ·rw [List.length_append, rep_len]; omega
 ·omega
theorem fill_small {args : List Ag} {u : Nat} {f : Fld} (hA : AgsOk args) (hX : ∀ a ∈ args, a.tx.length ≤ 65) (hf : FrOk f) (h0 : f.lt ≠ 0) : (fillV args u f).1.length ≤ 6000 := by
 unfold fillV
 split
 ·exact absurd (by assumption) h0
 ·simp only
  split
  ·simp
  ·rename_i hs
   split
   ·simp
   ·have hso := stars_ok (args := args) (u := u) hf.1 (by simpa using hs)
    have hoa := ofA_ok hA (starsV args u f).2.1 f.nm
    have hox := ofA_tx hX (starsV args u f).2.1 f.nm
    generalize (starsV args u f).2.2 = sf at *
    generalize (ofA args (starsV args u f).2.1 f.nm).1 = oa at *
    obtain ⟨⟨hw, hp⟩, _, _⟩ := hso
    have htl : (textV oa).length ≤ 65 := by
     unfold textV
     split
     ·exact hox
     ·exact showB_len hoa.1
    cases hq : putV sf oa with
    | none => simp
    | some t =>
     simp only
     unfold putV at hq
     split at hq
     ·cases hq
      have h1 := padded_len hw.2 (shortV sf (textV oa))
      have h2 := short_len sf (textV oa)
      omega
     ·split at hq
      ·cases hq
       have h1 := padded_len hw.2 (shortV sf (quoV (textV oa)))
       have h2 := short_len sf (quoV (textV oa))
       have h3 := quo_len (textV oa)
       omega
      ·split at hq
       ·split at hq
        ·split at hq
         ·cases hq
         ·cases hq
          have h1 := padded_len hw.2 (oa.tx.take 1)
          have h2 : (oa.tx.take 1).length ≤ 1 := by rw [List.length_take]; omega
          omega
        ·split at hq
         ·cases hq
         ·cases hq
          have h1 := padded_len hw.2 [UInt8.ofNat oa.int.toNat]
          simp at h1
          omega
       ·cases hna : numA oa with
        | none => rw [hna] at hq; cases hq
        | some n =>
         rw [hna] at hq
         cases hq
         have := num_small (f := sf) (numA_in hoa hna) hw.2 hp.2
         omega
theorem wR (fl : Int) (i : Nat) : (flagsV fl i).all isFl = true := by
 induction i with
 | zero => rfl
 | succ i ih =>
  simp only [flagsV, List.all_append, ih, Bool.true_and]
  split
  ·unfold flagC
   have : i = 0 ∨ i = 1 ∨ i = 2 ∨ i = 3 ∨ i = 4 ∨ 5 ≤ i := by omega
   rcases this with rfl | rfl | rfl | rfl | rfl | h
   ·rfl
   ·rfl
   ·rfl
   ·rfl
   ·rfl
   ·rw [List.drop_of_length_le (by simpa using h)]; rfl
  ·rfl
theorem widT_P (w : Nat) : widT false w = widP w := by simp [widT, widP]
theorem preT_P (q : Nat) : preT false q = preP q := by simp [preT, preP]
theorem let_one' (p : Pk) : ∃ c ∈ lets, letT p = [c] := by
 have h := mdU_lt p.lt (m := 8) (by decide)
 unfold letT
 have : mdU p.lt 8 = 0 ∨ mdU p.lt 8 = 1 ∨ mdU p.lt 8 = 2 ∨ mdU p.lt 8 = 3 ∨ mdU p.lt 8 = 4 ∨ mdU p.lt 8 = 5 ∨ mdU p.lt 8 = 6 ∨ mdU p.lt 8 = 7 := by omega
 rcases this with h | h | h | h | h | h | h | h <;> rw [h] <;> exact ⟨_, by decide, rfl⟩
def itP (p : Pk) : It := ⟨flagsV p.fl 5 ++ widP (mdU p.wd 16) ++ preP (mdU p.pr 16) ++ letT p, fldP (flagsV p.fl 5) (mdU p.wd 16) (mdU p.pr 16) (pk (letT p)), madeA p false⟩
theorem made_it (p : Pk) : madeT p false = 37 :: (itP p).x := by
 unfold madeT headT itP
 rw [widT_P, preT_P]
 simp
theorem Q4 (w : Nat) (h : w < 16) : (wdP w = -2 ∨ (-1 ≤ wdP w ∧ wdP w ≤ 1000)) ∧ (wdP w = -2 ↔ ¬ w < 14) := by
 unfold wdP
 split
 ·exact ⟨.inr (by omega), by omega⟩
 ·split
  ·exact ⟨.inr (by omega), by omega⟩
  ·exact ⟨.inl rfl, by omega⟩
theorem Qk (w : Nat) (h : w < 16) : (prP w = -2 ∨ (-1 ≤ prP w ∧ prP w ≤ 1000)) ∧ (prP w = -2 ↔ ¬ w < 14) := by
 unfold prP
 split
 ·exact ⟨.inr (by omega), by omega⟩
 ·split
  ·exact ⟨.inr (by omega), by omega⟩
  ·split
   ·exact ⟨.inr (by omega), by omega⟩
   ·exact ⟨.inl rfl, by omega⟩
theorem made_args {p : Pk} (hp : PkOk p) : (∀ a ∈ madeA p false, AgOk a) ∧ (∀ a ∈ madeA p false, a.tx.length ≤ 65) ∧ (madeA p false).length ≤ 3 := by
 have hl := last_ok hp
 have hx : (lastA p).tx.length ≤ 65 := by
  show (lastX p).length ≤ 65
  unfold lastX
  split
  ·exact showB_len hp.2.2.2.2.1
  ·rw [List.length_take]; omega
 have i1 := tmod_in 20 hp.2.1 (by decide) (by decide)
 have i2 := tmod_in 9 hp.2.2.1 (by decide) (by decide)
 have e1 : ∀ a ∈ widA false p, AgOk a ∧ a.tx.length ≤ 65 := by
  intro a ha
  unfold widA at ha
  split at ha
  ·cases ha
  ·rw [List.mem_singleton.1 ha]; exact ⟨⟨i1, by simp⟩, by simp⟩
 have e2 : ∀ a ∈ preA false p, AgOk a ∧ a.tx.length ≤ 65 := by
  intro a ha
  unfold preA at ha
  split at ha
  ·cases ha
  ·rw [List.mem_singleton.1 ha]; exact ⟨⟨i2, by simp⟩, by simp⟩
 have e : ∀ a ∈ madeA p false, AgOk a ∧ a.tx.length ≤ 65 := by
  intro a ha
  unfold madeA at ha
  rcases List.mem_append.1 ha with ha | ha
  ·rcases List.mem_append.1 ha with ha | ha
   ·exact e1 a ha
   ·exact e2 a ha
  ·rw [List.mem_singleton.1 ha]; exact ⟨hl, hx⟩
 refine ⟨fun a ha => (e a ha).1, fun a ha => (e a ha).2, ?_⟩
 unfold madeA widA preA
 split <;> split <;> simp
theorem Qq {p : Pk} (hp : PkOk p) : (itP p).ok := by
 obtain ⟨c, hc, hlt⟩ := let_one' p
 have hw := mdU_lt p.wd (m := 16) (by decide)
 have hq := mdU_lt p.pr (m := 16) (by decide)
 obtain ⟨a1, a2, a3⟩ := made_args hp
 have e : itP p = ⟨flagsV p.fl 5 ++ widP (mdU p.wd 16) ++ preP (mdU p.pr 16) ++ [c], fldP (flagsV p.fl 5) (mdU p.wd 16) (mdU p.pr 16) c, madeA p false⟩ := by
  unfold itP; rw [hlt]; rfl
 rw [e]
 have hnm : (fldP (flagsV p.fl 5) (mdU p.wd 16) (mdU p.pr 16) c).nm = [] := (flagR_keep (flagsV p.fl 5) fd0).1
 have htx : (fldP (flagsV p.fl 5) (mdU p.wd 16) (mdU p.pr 16) c).tx = [] := (flagR_keep (flagsV p.fl 5) fd0).2
 have hlt0 : c ≠ 0 := by intro e; subst e; revert hc; decide
 refine ⟨⟨hnm, hlt0, fun r => ?_⟩, ⟨hnm, hlt0, ?_⟩, ?_⟩
 ·have := field_made (wR p.fl 5) hw hq r hc
  rw [show flagsV p.fl 5 ++ widP (mdU p.wd 16) ++ preP (mdU p.pr 16) ++ [c] ++ r = flagsV p.fl 5 ++ widP (mdU p.wd 16) ++ preP (mdU p.pr 16) ++ c :: r by simp]
  exact this
 ·show (widA false p ++ preA false p ++ [lastA p]).length = (if wdP (mdU p.wd 16) = -2 then 1 else 0) + (if prP (mdU p.pr 16) = -2 then 1 else 0) + 1
  have h1 := (Q4 _ hw).2
  have h2 := (Qk _ hq).2
  rw [List.length_append, List.length_append]
  unfold widA preA
  by_cases b1 : mdU p.wd 16 < 14 <;> by_cases b2 : mdU p.pr 16 < 14 <;> simp [b1, b2, h1, h2]
 ·exact fill_small ⟨(show (madeA p false).length ≤ 1000000 by omega), a1⟩ a2 ⟨⟨(Q4 _ hw).1, (Qk _ hq).1⟩, .inr hc, by rw [htx]; simp⟩ hlt0
theorem fills_err (args : List Ag) : ∀ (L : List Fld) (u : Nat) (out : Bs), (fillsV args L u out).2.2 ≠ 0 → (fillsV args L u out).1 = [] := by
 intro L
 induction L with
 | nil => intro u out h; exact absurd rfl h
 | cons f L ih =>
  intro u out h
  rw [fills_cons] at h ⊢
  split
  ·rfl
  ·rename_i h1
   rw [if_neg h1] at h
   split
   ·rfl
   ·rename_i h2
    rw [if_neg h2] at h
    exact ih _ _ h
theorem QB (form : Bs) (args : List Ag) (h : (runV form args).2.2 ≠ 0) : (runV form args).1 = [] := by
 unfold runV at h ⊢
 cases hr : readV form with
 | none => rfl
 | some L => rw [hr] at h; exact fills_err args L 0 [] h
theorem vY {t : Bs} (ht : t.length ≤ 30) {ps : List It} (hok : ∀ p ∈ ps, p.ok) (hl : ps.length ≤ 15) (hf : (formP t (pairP ps)).length ≤ 2000) :
  if (ps.all fun p => p.err == 0) then ∃ n, runV (formP t (pairP ps)) (argsP ps) = (wantP t ps, n, 0) else (runV (formP t (pairP ps)) (argsP ps)).2.2 ≠ 0 := by
 obtain ⟨Ls, h1, h2⟩ := ve (t := t) (ps := pairP ps) (fun q hq => by
  obtain ⟨p, hp, rfl⟩ := List.mem_map.1 hq
  exact (hok p hp).1) hf
 have h := fills_form t ht ps Ls [] [] hok h2 (by simp; omega)
 simp only [List.nil_append, List.length_nil] at h
 unfold runV
 rw [h1]
 exact h
theorem QL {p : It} (hp : p.ok) (hx : p.x.length ≤ 100) : (runV (37 :: p.x) p.a).1.length ≤ 6000 ∧ (p.err = 0 → (runV (37 :: p.x) p.a).1 = p.txt) ∧ ((runV (37 :: p.x) p.a).2.2 = 0 ↔ p.err = 0) := by
 have h := vY (t := []) (by simp) (ps := [p]) (fun q hq => by rw [List.mem_singleton.1 hq]; exact hp) (by simp) (by simp [formP, pairP, escV]; omega)
 have e1 : formP [] (pairP [p]) = 37 :: p.x := by simp [formP, pairP, escV]
 have e2 : argsP [p] = p.a := by simp [argsP]
 have e3 : wantP [] [p] = p.txt := by simp [wantP]
 rw [e1, e2, e3] at h
 by_cases he : p.err = 0
 ·have ha : ([p].all fun p => p.err == 0) = true := by simp [he]
  rw [ha, if_pos rfl] at h
  obtain ⟨n, hn⟩ := h
  rw [hn]
  exact ⟨hp.2.2, fun _ => rfl, by simp [he]⟩
 ·have ha : ([p].all fun p => p.err == 0) = false := by simp [he]
  rw [ha, if_neg (by simp)] at h
  refine ⟨by rw [QB _ _ h]; simp, fun h => absurd h he, by constructor <;> intro q <;> contradiction⟩
def psI (l : List Pk) (i : Nat) : List It := (l.take i).map itP
def formI (t : Bs) (l : List Pk) (i : Nat) : Bs := formP t (pairP (psI l i))
def argsI (l : List Pk) (i : Nat) : List Ag := argsP (psI l i)
def okI (l : List Pk) (i : Nat) : Bool := (psI l i).all fun p => p.err == 0
def wantI (t : Bs) (l : List Pk) (i : Nat) : Bs := wantP t (psI l i)
theorem psI_step {l : List Pk} {i : Nat} {p : Pk} (h : l[i]? = some p) : psI l (i + 1) = psI l i ++ [itP p] := by
 unfold psI; rw [List.take_add_one, h]; simp
theorem formI_step (t : Bs) {l : List Pk} {i : Nat} {p : Pk} (h : l[i]? = some p) : formI t l (i + 1) = formI t l i ++ escV t ++ madeT p false := by
 unfold formI; rw [psI_step h, made_it]; simp [formP, pairP]
theorem argsI_step {l : List Pk} {i : Nat} {p : Pk} (h : l[i]? = some p) : argsI l (i + 1) = argsI l i ++ madeA p false := by
 unfold argsI; rw [psI_step h]; simp [argsP, itP]
theorem okI_step {l : List Pk} {i : Nat} {p : Pk} (h : l[i]? = some p) : okI l (i + 1) = (okI l i && (itP p).err == 0) := by
 unfold okI; rw [psI_step h]; simp
theorem wantI_step (t : Bs) {l : List Pk} {i : Nat} {p : Pk} (h : l[i]? = some p) : wantI t l (i + 1) = wantI t l i ++ t ++ (itP p).txt := by
 unfold wantI; rw [psI_step h]; simp [wantP]
theorem formI_len {t : Bs} (ht : t.length ≤ 30) (l : List Pk) : ∀ i, i ≤ l.length → (formI t l i).length ≤ 100 * i := by
 intro i
 induction i with
 | zero => intro _; simp [formI, psI, pairP, formP]
 | succ i ih =>
  intro hi
  obtain ⟨p, hp⟩ : ∃ p, l[i]? = some p := ⟨_, List.getElem?_eq_getElem (by omega)⟩
  rw [formI_step t hp, List.length_append, List.length_append]
  have h1 := ih (by omega)
  have h2 := esc_len t
  have h3 := made_len p false
  omega
theorem argsI_ok {l : List Pk} (hl : ∀ p ∈ l, PkOk p) : ∀ i, i ≤ l.length → (argsI l i).length ≤ 3 * i ∧ ∀ a ∈ argsI l i, AgOk a := by
 intro i
 induction i with
 | zero => intro _; simp [argsI, psI, argsP]
 | succ i ih =>
  intro hi
  obtain ⟨p, hp⟩ : ∃ p, l[i]? = some p := ⟨_, List.getElem?_eq_getElem (by omega)⟩
  obtain ⟨h1, h2⟩ := ih (by omega)
  obtain ⟨a1, _, a3⟩ := made_args (hl p (List.mem_of_getElem? hp))
  rw [argsI_step hp]
  refine ⟨by rw [List.length_append]; omega, fun a ha => ?_⟩
  rcases List.mem_append.1 ha with ha | ha
  ·exact h2 a ha
  ·exact a1 a ha
theorem psI_ok {l : List Pk} (hl : ∀ p ∈ l, PkOk p) (i : Nat) : ∀ x ∈ psI l i, x.ok := fun x hx => by
 obtain ⟨p, hp, rfl⟩ := List.mem_map.1 hx
 exact Qq (hl p (List.mem_of_mem_take hp))
theorem ba_app3 (a b c : Bs) : ({ data := a.toArray } : ByteArray) ++ { data := b.toArray } ++ { data := c.toArray } = { data := (a ++ (b ++ c)).toArray } := by
 rw [ba_app, ba_app, List.append_assoc]
set_option maxHeartbeats 16000000 in
theorem xW (l : List Pk) (text : Bs) (hl : ∀ p ∈ l, PkOk p) (hx : text.length ≤ 9223372036854775807) : PCall Tryz.prog 4 [.sl 7 (l.map cPk), dS text] fun r => r = dB true := by 
 refine qB Tryz.func4 rfl rfl Tryz.ntmps4 (rs := [.tmp 4]) (tys := [4]) rfl rfl (by simp) ?_
 (refine qc fun Y Yh => ?_; simp [go_sem]; ((repeat' (first|(refine qf ?_;simp [go_sem])|intro _|apply And.intro|(apply Yh;clear Yh Y)));all_goals first|apply QS|omega|with_reducible assumption|skip))
 refine qh fun K1 hK1 => ?_
 have tl1 : ∀ S' (t : Bs), t.length ≤ 30 → Cov S' ⟨[(0, .sl 7 (l.map cPk)), (1, dS t)], []⟩ → K1 S' := fun S' t ht hS => by
  refine hK1 _ ?_; clear hK1
  refine qG hS ?_; clear hS
  (refine qc fun Y Yh => ?_; simp [go_sem]; ((repeat' (first|(refine qf ?_;simp [go_sem])|intro _|apply And.intro|(apply Yh;clear Yh Y)));all_goals first|apply QS|omega|with_reducible assumption|skip))
  (refine qc fun Y Yh => ?_; simp [go_sem]; ((repeat' (first|(refine qf ?_;simp [go_sem])|intro _|apply And.intro|(apply Yh;clear Yh Y)));all_goals first|apply QS|omega|with_reducible assumption|skip))
  (refine qc fun Y Yh => ?_; simp [go_sem]; ((repeat' (first|(refine qf ?_;simp [go_sem])|intro _|apply And.intro|(apply Yh;clear Yh Y)));all_goals first|apply QS|omega|with_reducible assumption|skip))
  (refine qc fun Y Yh => ?_; simp [go_sem]; ((repeat' (first|(refine qf ?_;simp [go_sem])|intro _|apply And.intro|(apply Yh;clear Yh Y)));all_goals first|apply QS|omega|with_reducible assumption|skip))
  refine zA 8 900031 25 4 rfl fun go => ?_
  simp only [go_sem]
  refine qh fun K2 hK2 => ?_
  (refine qc fun Y Yh => ?_; simp [go_sem]; ((repeat' (first|(refine qf ?_;simp [go_sem])|intro _|apply And.intro|(apply Yh;clear Yh Y)));all_goals first|apply QS|omega|with_reducible assumption|skip))
  refine qo ?_
  refine qM (σ := Nat × Bs × Nat) (fun x => ⟨[(0, .sl 7 (l.map cPk)), (1, dS t), (5, dS (formI t l x.1)), (6, dS x.2.1), (7, dB (okI l x.1)), (8, .own 900031 x.2.2), (9, dI x.1)], [(900031, (x.2.2, .row 25 4 ((argsI l x.1).map cA)))]⟩) (fun x => x.1 ≤ l.length ∧ x.1 ≤ 15 ∧ x.2.1.length ≤ 6030 * x.1 ∧ (okI l x.1 = true → x.2.1 = wantI t l x.1)) (fun x => 15 - x.1) (0, [], go) ?_ ?_ ?_
  ·(refine ql ?_ ?_ <;> simp [go_sem])
   ·exact ⟨rfl, rfl⟩
   ·rfl
  ·exact ⟨by simp, by simp, by simp, fun _ => rfl⟩
  rintro ⟨i, want, go⟩ ⟨hi1, hi2, hi3, hi4⟩
  simp only at hi1 hi2 hi3 hi4 ⊢
  refine qh fun K3 hK3 => ?_
  have hfl := formI_len ht l i hi1
  obtain ⟨ha1, ha2⟩ := argsI_ok hl i hi1
  by_cases h3 : i < l.length ∧ i < 15
  ·obtain ⟨p, hp⟩ : ∃ p, l[i]? = some p := ⟨_, List.getElem?_eq_getElem h3.1⟩
   have hpk := hl p (List.mem_of_getElem? hp)
   have hM := wK p false hpk
   obtain ⟨m1, m2, m3⟩ := made_args hpk
   have hml := made_len p false
   have hF := zS (madeT p false) (madeA p false) ⟨by omega, m1⟩ (by omega)
   have hxl : (itP p).x.length ≤ 100 := by
    have := congrArg List.length (made_it p)
    rw [List.length_cons] at this; omega
   obtain ⟨o1, o2, o3⟩ := QL (Qq hpk) hxl
   rw [show 37 :: (itP p).x = madeT p false from (made_it p).symm, show (itP p).a = madeA p false from rfl] at o1 o2 o3
   have hE := xI t (by omega)
   have hel := esc_len t
   have s1 := formI_step t hp
   have s2 := argsI_step hp
   have s3 := okI_step hp
   have s4 := wantI_step t hp
   generalize madeT p false = T at *
   generalize madeA p false = A at *
   generalize runV T A = rv at *
   obtain ⟨o, u, e⟩ := rv
   simp only at o1 o2 o3 hF
   generalize (itP p).err = er at *
   generalize (itP p).txt = tx at *
   generalize formI t l i = FM at *
   generalize argsI l i = AA at *
   generalize hOk : okI l i = ok at *
   have h10 : (i : Int) < 15 := by omega
   (refine qc fun Y Yh => ?_; simp [go_sem, h3.1, h10]; ((repeat' (first|(refine qw ?_ ?_ ?_;(focus (simp [go_sem, undef, h3.1, h10];done));(focus (simp [go_sem];done));simp [go_sem, h3.1, h10])|(refine qp ?_ ?_;(focus (simp [go_sem, undef, h3.1, h10];done));simp [go_sem, h3.1, h10])|(refine qf ?_;simp [go_sem, undef, h3.1, h10])|intro _|apply And.intro|(apply Yh;clear Yh Y)));all_goals first|apply QS|omega|with_reducible assumption|skip))
   (refine qg fun T F hT hF => ?_; simp [go_sem, h10]; refine hT ?_; clear hT hF T F)
   refine qi ?_
   refine hK3 _ ?_; clear hK3
   refine qh fun K5 hK5 => ?_
   refine qo ?_
   (refine qc fun Y Yh => ?_; simp [go_sem, hp]; ((repeat' (first|(refine qf ?_;simp [go_sem, hp])|intro _|apply And.intro|(apply Yh;clear Yh Y)));all_goals first|apply QS|omega|with_reducible assumption|skip))
   (refine qN [900030] (.inl ⟨rfl,rfl⟩) (by simp [go_sem]) ?_; intro args ha; simp [go_sem] at ha; subst ha; refine ⟨_, _, hM, (by simp [go_sem]), ?_⟩; rintro ps r hps ⟨ga, rfl, rfl⟩; simp [go_sem]; ((repeat' (first|(refine qf ?_;simp [go_sem])|intro _|apply And.intro|(apply Yh;clear Yh Y)));all_goals first|apply QS|omega|with_reducible assumption|skip))
   refine jS 11 rfl rfl ?_
   simp only [go_sem]
   (refine qc fun Y Yh => ?_; simp [go_sem]; ((repeat' (first|(refine qf ?_;simp [go_sem])|intro _|apply And.intro|(apply Yh;clear Yh Y)));all_goals first|apply QS|omega|with_reducible assumption|skip))
   ((try refine QT ?_); refine qm (.inl ⟨rfl,rfl⟩) (by simp [go_sem]) ?_; intro args ha; simp [go_sem] at ha; subst ha; refine ⟨_, hF, ?_⟩; rintro _ rfl; simp [go_sem]; ((repeat' (first|(refine qf ?_;simp [go_sem])|intro _|apply And.intro|(apply Yh;clear Yh Y)));all_goals first|apply QS|omega|with_reducible assumption|skip))
   cases ok with
   | true =>
    (refine qc fun Y Yh => ?_; simp [go_sem]; ((repeat' (first|(refine qf ?_;simp [go_sem])|intro _|apply And.intro|(apply Yh;clear Yh Y)));all_goals first|apply QS|omega|with_reducible assumption|skip))
    (refine qc fun Y Yh => ?_; simp [go_sem]; ((repeat' (first|(refine qf ?_;simp [go_sem])|intro _|apply And.intro|(apply Yh;clear Yh Y)));all_goals first|apply QS|omega|with_reducible assumption|skip))
    (refine qc fun Y Yh => ?_; simp [go_sem]; ((repeat' (first|(refine qf ?_;simp [go_sem])|intro _|apply And.intro|(apply Yh;clear Yh Y)));all_goals first|apply QS|omega|with_reducible assumption|skip))
    ((try refine QT ?_); refine qm (.inl ⟨rfl,rfl⟩) (by simp [go_sem]) ?_; intro args ha; simp [go_sem] at ha; subst ha; refine ⟨_, hE, ?_⟩; rintro _ rfl; simp [go_sem]; ((repeat' (first|(refine qf ?_;simp [go_sem])|intro _|apply And.intro|(apply Yh;clear Yh Y)));all_goals first|apply QS|omega|with_reducible assumption|skip))
    (refine qx fun Y Yh => ?_; simp [go_sem]; ((repeat' (first|(refine qf ?_;simp [go_sem])|intro _|apply And.intro|(apply Yh;clear Yh Y)));all_goals first|apply QS|omega|with_reducible assumption|skip))
    refine hK5 _ ?_; clear hK5
    (refine qx fun Y Yh => ?_; simp [go_sem]; ((repeat' (first|(refine qf ?_;simp [go_sem])|intro _|apply And.intro|(apply Yh;clear Yh Y)));all_goals first|apply QS|omega|with_reducible assumption|skip))
    rename_i gq
    refine ⟨(i + 1, want ++ t ++ o, gq), ?_, ?_, ?_⟩
    ·rw [s1, s2, s3]
     (refine ql ?_ ?_ <;> simp [go_sem])
     exact ⟨ba_app3 _ _ _, ba_app3 _ _ _, by rw [Bool.eq_iff_iff]; simp [o3]⟩
    ·refine ⟨by simp only; omega, by simp only; omega, ?_, fun hq => ?_⟩
     ·simp only [List.length_append]; omega
     ·simp only at hq ⊢
      rw [s3] at hq
      rw [s4, hi4 rfl, o2 (by simpa using hq)]
    ·simp only; omega
   | false =>
    (refine qc fun Y Yh => ?_; simp [go_sem]; ((repeat' (first|(refine qf ?_;simp [go_sem])|intro _|apply And.intro|(apply Yh;clear Yh Y)));all_goals first|apply QS|omega|with_reducible assumption|skip))
    (refine qc fun Y Yh => ?_; simp [go_sem]; ((repeat' (first|(refine qf ?_;simp [go_sem])|intro _|apply And.intro|(apply Yh;clear Yh Y)));all_goals first|apply QS|omega|with_reducible assumption|skip))
    (refine qc fun Y Yh => ?_; simp [go_sem]; ((repeat' (first|(refine qf ?_;simp [go_sem])|intro _|apply And.intro|(apply Yh;clear Yh Y)));all_goals first|apply QS|omega|with_reducible assumption|skip))
    ((try refine QT ?_); refine qm (.inl ⟨rfl,rfl⟩) (by simp [go_sem]) ?_; intro args ha; simp [go_sem] at ha; subst ha; refine ⟨_, hE, ?_⟩; rintro _ rfl; simp [go_sem]; ((repeat' (first|(refine qf ?_;simp [go_sem])|intro _|apply And.intro|(apply Yh;clear Yh Y)));all_goals first|apply QS|omega|with_reducible assumption|skip))
    (refine qx fun Y Yh => ?_; simp [go_sem]; ((repeat' (first|(refine qf ?_;simp [go_sem])|intro _|apply And.intro|(apply Yh;clear Yh Y)));all_goals first|apply QS|omega|with_reducible assumption|skip))
    refine hK5 _ ?_; clear hK5
    (refine qx fun Y Yh => ?_; simp [go_sem]; ((repeat' (first|(refine qf ?_;simp [go_sem])|intro _|apply And.intro|(apply Yh;clear Yh Y)));all_goals first|apply QS|omega|with_reducible assumption|skip))
    rename_i gq
    refine ⟨(i + 1, want ++ t ++ o, gq), ?_, ?_, ?_⟩
    ·rw [s1, s2, s3]
     (refine ql ?_ ?_ <;> simp [go_sem])
     exact ⟨ba_app3 _ _ _, ba_app3 _ _ _⟩
    ·refine ⟨by simp only; omega, by simp only; omega, ?_, fun hq => ?_⟩
     ·simp only [List.length_append]; omega
     ·simp only at hq ⊢
      rw [s3] at hq
      cases hq
    ·simp only; omega
  ·have tl2 : ∀ S', Cov S' ⟨[(5, dS (formI t l i)), (6, dS want), (7, dB (okI l i)), (8, .own 900031 go)], [(900031, (go, .row 25 4 ((argsI l i).map cA)))]⟩ → K2 S' := fun S' hS => by
    refine hK2 _ ?_; clear hK2
    refine qG hS ?_; clear hS
    have hF := xU (formI t l i) (argsI l i) ⟨by omega, ha2⟩ (by omega)
    have hG := zS (formI t l i) (argsI l i) ⟨by omega, ha2⟩ (by omega)
    have hR := vY ht (psI_ok hl i) (by unfold psI; rw [List.length_map, List.length_take]; omega) (show (formP t (pairP (psI l i))).length ≤ 2000 from (by have : (formP t (pairP (psI l i))).length ≤ 100 * i := hfl; omega))
    have hR : if okI l i = true then ∃ n, runV (formI t l i) (argsI l i) = (wantI t l i, n, 0) else (runV (formI t l i) (argsI l i)).2.2 ≠ 0 := hR
    refine jS 8 rfl rfl ?_
    simp only [go_sem]
    generalize runV (formI t l i) (argsI l i) = rv at *
    obtain ⟨o, u, e⟩ := rv
    simp only at hG hR
    generalize formI t l i = FM at *
    generalize argsI l i = AA at *
    generalize wantI t l i = WW at *
    refine qh fun K6 hK6 => ?_
    (refine qc fun Y Yh => ?_; simp [go_sem]; ((repeat' (first|(refine qf ?_;simp [go_sem])|intro _|apply And.intro|(apply Yh;clear Yh Y)));all_goals first|apply QS|omega|with_reducible assumption|skip))
    ((try refine QT ?_); refine qm (.inl ⟨rfl,rfl⟩) (by simp [go_sem]) ?_; intro args ha; simp [go_sem] at ha; subst ha; refine ⟨_, hF, ?_⟩; rintro _ rfl; simp [go_sem]; ((repeat' (first|(refine qf ?_;simp [go_sem])|intro _|apply And.intro|(apply Yh;clear Yh Y)));all_goals first|apply QS|omega|with_reducible assumption|skip))
    (refine qg fun T F hT hF => ?_; simp [go_sem]; refine hF ?_; clear hT hF T F)
    refine qi ?_
    refine hK6 _ ?_; clear hK6
    (refine qc fun Y Yh => ?_; simp [go_sem]; ((repeat' (first|(refine qf ?_;simp [go_sem])|intro _|apply And.intro|(apply Yh;clear Yh Y)));all_goals first|apply QS|omega|with_reducible assumption|skip))
    ((try refine QT ?_); refine qm (.inl ⟨rfl,rfl⟩) (by simp [go_sem]) ?_; intro args ha; simp [go_sem] at ha; subst ha; refine ⟨_, hG, ?_⟩; rintro _ rfl; simp [go_sem]; ((repeat' (first|(refine qf ?_;simp [go_sem])|intro _|apply And.intro|(apply Yh;clear Yh Y)));all_goals first|apply QS|omega|with_reducible assumption|skip))
    cases hok : okI l i with
    | true =>
     rw [hok] at hR hi4
     rw [if_pos rfl] at hR
     obtain ⟨n, hn⟩ := hR
     simp only [Prod.mk.injEq] at hn
     obtain ⟨rfl, rfl, rfl⟩ := hn
     have hw := hi4 rfl
     subst hw
     (refine qc fun Y Yh => ?_; simp [go_sem]; ((repeat' (first|(refine qw ?_ ?_ ?_;(focus (simp [go_sem, undef];done));(focus (simp [go_sem];done));simp [go_sem])|(refine qp ?_ ?_;(focus (simp [go_sem, undef];done));simp [go_sem])|(refine qf ?_;simp [go_sem, undef])|intro _|apply And.intro|(apply Yh;clear Yh Y)));all_goals first|apply QS|omega|with_reducible assumption|skip))
     ((try refine QT ?_); refine qm (.inl ⟨rfl,rfl⟩) (by simp [go_sem]) ?_; intro args ha; simp [go_sem] at ha; subst ha; refine ⟨_, xh, ?_⟩; rintro _ rfl; simp [go_sem]; ((repeat' (first|(refine qw ?_ ?_ ?_;(focus (simp [go_sem, undef];done));(focus (simp [go_sem];done));simp [go_sem])|(refine qp ?_ ?_;(focus (simp [go_sem, undef];done));simp [go_sem])|(refine qf ?_;simp [go_sem, undef])|intro _|apply And.intro|(apply Yh;clear Yh Y)));all_goals first|apply QS|omega|with_reducible assumption|skip))
     (refine qj ?_; simp [go_sem])
    | false =>
     rw [hok] at hR
     rw [if_neg (by simp)] at hR
     (refine qc fun Y Yh => ?_; simp [go_sem, hR]; ((repeat' (first|(refine qw ?_ ?_ ?_;(focus (simp [go_sem, undef, hR];done));(focus (simp [go_sem];done));simp [go_sem, hR])|(refine qp ?_ ?_;(focus (simp [go_sem, undef, hR];done));simp [go_sem, hR])|(refine qf ?_;simp [go_sem, undef, hR])|intro _|apply And.intro|(apply Yh;clear Yh Y)));all_goals first|apply QS|omega|with_reducible assumption|skip))
     ((try refine QT ?_); refine qm (.inl ⟨rfl,rfl⟩) (by simp [go_sem]) ?_; intro args ha; simp [go_sem] at ha; subst ha; refine ⟨_, xh, ?_⟩; rintro _ rfl; simp [go_sem]; ((repeat' (first|(refine qw ?_ ?_ ?_;(focus (simp [go_sem, undef];done));(focus (simp [go_sem];done));simp [go_sem])|(refine qp ?_ ?_;(focus (simp [go_sem, undef];done));simp [go_sem])|(refine qf ?_;simp [go_sem, undef])|intro _|apply And.intro|(apply Yh;clear Yh Y)));all_goals first|apply QS|omega|with_reducible assumption|skip))
     (refine qj ?_; simp [go_sem])
   by_cases h1 : i < l.length
   ·have h10 : ¬ (i : Int) < 15 := by omega
    (refine qc fun Y Yh => ?_; simp [go_sem, h1, h10]; ((repeat' (first|(refine qw ?_ ?_ ?_;(focus (simp [go_sem, undef, h1, h10];done));(focus (simp [go_sem];done));simp [go_sem, h1, h10])|(refine qp ?_ ?_;(focus (simp [go_sem, undef, h1, h10];done));simp [go_sem, h1, h10])|(refine qf ?_;simp [go_sem, undef, h1, h10])|intro _|apply And.intro|(apply Yh;clear Yh Y)));all_goals first|apply QS|omega|with_reducible assumption|skip))
    (refine qg fun T F hT hF => ?_; simp [go_sem, h10]; refine hF ?_; clear hT hF T F)
    refine qH ?_
    simp only [go_sem]
    refine tl2 _ ?_
    (refine ql ?_ ?_ <;> simp [go_sem])
   ·(refine qc fun Y Yh => ?_; simp [go_sem, h1]; ((repeat' (first|(refine qw ?_ ?_ ?_;(focus (simp [go_sem, undef, h1];done));(focus (simp [go_sem];done));simp [go_sem, h1])|(refine qp ?_ ?_;(focus (simp [go_sem, undef, h1];done));simp [go_sem, h1])|(refine qf ?_;simp [go_sem, undef, h1])|intro _|apply And.intro|(apply Yh;clear Yh Y)));all_goals first|apply QS|omega|with_reducible assumption|skip))
    (refine qg fun T F hT hF => ?_; simp [go_sem, h1]; refine hF ?_; clear hT hF T F)
    refine qH ?_
    simp only [go_sem]
    refine tl2 _ ?_
    (refine ql ?_ ?_ <;> simp [go_sem])
 clear hK1
 (refine qc fun Y Yh => ?_; simp [go_sem, ba_size]; ((repeat' (first|(refine qf ?_;simp [go_sem, ba_size])|intro _|apply And.intro|(apply Yh;clear Yh Y)));all_goals first|apply QS|omega|with_reducible assumption|skip))
 by_cases h : (30 : Int) < text.length
 ·(refine qg fun T F hT hF => ?_; simp [go_sem, h]; refine hT ?_; clear hT hF T F)
  (refine qx fun Y Yh => ?_; simp [go_sem, ba_size]; ((repeat' (first|(refine qf ?_;simp [go_sem, ba_size])|intro _|apply And.intro|(apply Yh;clear Yh Y)));all_goals first|apply QS|omega|with_reducible assumption|skip))
  refine tl1 _ (text.take 30) (by rw [List.length_take]; omega) ?_
  (refine ql ?_ ?_ <;> simp [go_sem])
  rw [ba_cut]; simp
 ·(refine qg fun T F hT hF => ?_; simp [go_sem, h]; refine hF ?_; clear hT hF T F)
  refine qi ?_
  refine tl1 _ text (by omega) ?_
  (refine ql ?_ ?_ <;> simp [go_sem])
end Go.Proofs.YtelhdhofnohkcaaGreatDoor
