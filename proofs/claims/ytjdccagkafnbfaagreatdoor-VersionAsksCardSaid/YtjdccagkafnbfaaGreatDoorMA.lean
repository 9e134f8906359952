/- Part of a proof: see the last text. -/
import Derived.Lib.ItoaNum
set_option linter.unusedVariables false
set_option linter.unusedSimpArgs false
namespace Go.Wh
/-! digits, the least first -/
def val (B : Int) : List Int → Int
  | [] => 0
  | d :: l => d + B * val B l
def digs (B : Int) (l : List Int) : Prop := ∀ d ∈ l, 0 ≤ d ∧ d < B
def trimL : List Int → List Int
  | [] => []
  | d :: l => if trimL l = [] ∧ d = 0 then [] else d :: trimL l
theorem digs_nil (B : Int) : digs B [] := fun d h => by simp at h
theorem digs_cons {B d : Int} {l : List Int} : digs B (d :: l) ↔ (0 ≤ d ∧ d < B) ∧ digs B l := by simp [digs]
theorem digs_app {B : Int} {a b : List Int} : digs B (a ++ b) ↔ digs B a ∧ digs B b := by
  simp only [digs, List.mem_append]
  exact ⟨fun h => ⟨fun d hd => h d (.inl hd), fun d hd => h d (.inr hd)⟩, fun h d hd => hd.elim (h.1 d) (h.2 d)⟩
theorem digs_take {B : Int} {l : List Int} (h : digs B l) (i : Nat) : digs B (l.take i) := fun d hd => h d (List.mem_of_mem_take hd)
theorem digs_drop {B : Int} {l : List Int} (h : digs B l) (i : Nat) : digs B (l.drop i) := fun d hd => h d (List.mem_of_mem_drop hd)
theorem digs_at {B : Int} {l : List Int} (h : digs B l) {i : Nat} {d : Int} (hd : l[i]? = some d) : 0 ≤ d ∧ d < B := h d (List.mem_of_getElem? hd)
theorem digs_set {B : Int} {l : List Int} (h : digs B l) (i : Nat) {d : Int} (hd : 0 ≤ d ∧ d < B) : digs B (l.set i d) := fun x hx => by
  rcases List.mem_or_eq_of_mem_set hx with h' | rfl
  · exact h x h'
  · exact hd
theorem digs_rep {B : Int} (hB : 0 < B) (n : Nat) : digs B (List.replicate n 0) := fun d hd => by
  have := List.eq_of_mem_replicate hd
  omega
theorem val_app (B : Int) : ∀ (a b : List Int), val B (a ++ b) = val B a + B ^ a.length * val B b
  | [], b => by simp [val]
  | d :: a, b => by
    simp only [List.cons_append, val, val_app B a b, List.length_cons, Int.pow_succ]
    grind
theorem val_rep (B : Int) : ∀ n, val B (List.replicate n 0) = 0
  | 0 => rfl
  | n + 1 => by simp [List.replicate_succ, val, val_rep B n]
theorem val_nonneg {B : Int} (hB : 0 < B) : ∀ {l : List Int}, digs B l → 0 ≤ val B l
  | [], _ => Int.le_refl _
  | d :: l, h => by
    rw [digs_cons] at h
    have ih := val_nonneg hB h.2
    have : 0 ≤ B * val B l := Int.mul_nonneg (by omega) ih
    simp only [val]; omega
theorem pow_pos' {B : Int} (hB : 0 < B) (k : Nat) : 0 < B ^ k := Int.pow_pos hB
theorem val_lt {B : Int} (hB : 0 < B) : ∀ {l : List Int}, digs B l → val B l < B ^ l.length
  | [], _ => by simp [val]
  | d :: l, h => by
    rw [digs_cons] at h
    have ih := val_lt hB h.2
    have : B * (val B l + 1) ≤ B * B ^ l.length := Int.mul_le_mul_of_nonneg_left (by omega) (by omega)
    rw [Int.mul_add] at this
    simp only [val, List.length_cons, Int.pow_succ]
    rw [Int.mul_comm (B ^ l.length) B]
    omega
theorem val_snoc (B : Int) (a : List Int) (d : Int) : val B (a ++ [d]) = val B a + B ^ a.length * d := by
  rw [val_app]; simp [val]
theorem val_take_succ (B : Int) {l : List Int} {i : Nat} {d : Int} (h : l[i]? = some d) : val B (l.take (i + 1)) = val B (l.take i) + B ^ i * d := by
  have hi := (List.getElem?_eq_some_iff.1 h).1
  rw [List.take_add_one, h]
  simp only [Option.toList]
  rw [val_snoc, List.length_take]
  congr 3
  omega
theorem val_take_all (B : Int) {l : List Int} {i : Nat} (h : l.length ≤ i) : val B (l.take i) = val B l := by rw [List.take_of_length_le h]
theorem val_drop (B : Int) {l : List Int} {i : Nat} {d : Int} (h : l[i]? = some d) : val B (l.drop i) = d + B * val B (l.drop (i + 1)) := by
  obtain ⟨hi, rfl⟩ := List.getElem?_eq_some_iff.1 h
  rw [List.drop_eq_getElem_cons hi]; rfl
theorem val_split (B : Int) (l : List Int) (i : Nat) (h : i ≤ l.length) : val B l = val B (l.take i) + B ^ i * val B (l.drop i) := by
  conv => lhs; rw [← List.take_append_drop i l]
  rw [val_app, List.length_take, Nat.min_eq_left h]
theorem val_set (B : Int) {l : List Int} {i : Nat} {d v : Int} (h : l[i]? = some d) : val B (l.set i v) = val B l + B ^ i * (v - d) := by
  obtain ⟨hi, rfl⟩ := List.getElem?_eq_some_iff.1 h
  have e1 := val_split B l i (by omega)
  have e2 := val_split B (l.set i v) i (by simp; omega)
  rw [List.take_set_of_le (by omega)] at e2
  have e3 : (l.set i v).drop i = v :: l.drop (i + 1) := by
    rw [List.drop_eq_getElem_cons (by simpa using hi)]
    simp [List.drop_set_of_lt]
  rw [e3] at e2
  rw [List.drop_eq_getElem_cons hi] at e1
  simp only [val] at e1 e2
  grind

/-! without zeros at the top -/
theorem trim_val (B : Int) : ∀ l, val B (trimL l) = val B l
  | [] => rfl
  | d :: l => by
    have ih := trim_val B l
    simp only [trimL]
    split
    · rename_i h
      rw [h.1] at ih
      simp only [val] at ih ⊢
      rw [← ih, h.2]; simp
    · simp only [val, ih]
theorem trim_digs {B : Int} : ∀ {l : List Int}, digs B l → digs B (trimL l)
  | [], _ => digs_nil B
  | d :: l, h => by
    rw [digs_cons] at h
    simp only [trimL]
    split
    · exact digs_nil B
    · rw [digs_cons]; exact ⟨h.1, trim_digs h.2⟩
theorem trim_len : ∀ l, (trimL l).length ≤ l.length
  | [] => Nat.le_refl _
  | d :: l => by
    have ih := trim_len l
    simp only [trimL]
    split <;> simp <;> omega
theorem trim_idem : ∀ l, trimL (trimL l) = trimL l
  | [] => rfl
  | d :: l => by
    have ih := trim_idem l
    simp only [trimL]
    split
    · rfl
    · rename_i h
      simp only [trimL, ih]
      rw [if_neg h]
theorem trim_snoc0 : ∀ l, trimL (l ++ [0]) = trimL l
  | [] => rfl
  | d :: l => by simp only [List.cons_append, trimL, trim_snoc0 l]
theorem trim_snoc {d : Int} (hd : d ≠ 0) : ∀ l, trimL (l ++ [d]) = l ++ [d]
  | [] => by simp [trimL, hd]
  | x :: l => by
    simp only [List.cons_append, trimL, trim_snoc hd l]
    rw [if_neg (by simp)]
/-- the digits of a number -/
def dg (B : Nat) (n : Nat) : List Int := if h : n = 0 ∨ B < 2 then [] else ((n % B : Nat) : Int) :: dg B (n / B)
termination_by n
decreasing_by exact Nat.div_lt_self (by omega) (by omega)
theorem dg_zero (B : Nat) : dg B 0 = [] := by rw [dg]; simp
theorem dg_pos {B n : Nat} (hB : 2 ≤ B) (hn : n ≠ 0) : dg B n = ((n % B : Nat) : Int) :: dg B (n / B) := by
  rw [dg, dif_neg (by omega)]
theorem dg_digs {B : Nat} (hB : 2 ≤ B) (n : Nat) : digs B (dg B n) := by
  induction n using Nat.strongRecOn with
  | _ n ih =>
    by_cases hn : n = 0
    · subst hn; rw [dg_zero]; exact digs_nil _
    · rw [dg_pos hB hn, digs_cons]
      have := Nat.mod_lt n (show 0 < B by omega)
      exact ⟨by omega, ih _ (Nat.div_lt_self (by omega) (by omega))⟩
theorem dg_val {B : Nat} (hB : 2 ≤ B) (n : Nat) : val B (dg B n) = n := by
  induction n using Nat.strongRecOn with
  | _ n ih =>
    by_cases hn : n = 0
    · subst hn; rw [dg_zero]; rfl
    · rw [dg_pos hB hn]
      simp only [val]
      rw [ih _ (Nat.div_lt_self (by omega) (by omega)), ← Int.natCast_mul, ← Int.natCast_add, Nat.mod_add_div]
theorem trim_eq {B : Nat} (hB : 2 ≤ B) : ∀ {l : List Int}, digs B l → trimL l = dg B (val B l).toNat
  | [], _ => by simp [val, trimL, dg_zero]
  | d :: l, h => by
    rw [digs_cons] at h
    have ih := trim_eq hB h.2
    have hv := val_nonneg (B := B) (by omega) h.2
    have hm : 0 ≤ (B : Int) * val B l := Int.mul_nonneg (by omega) hv
    simp only [trimL, val]
    by_cases hz : d + B * val B l = 0
    · have hd : d = 0 := by omega
      have hm0 : (B : Int) * val B l = 0 := by omega
      have hl : val B l = 0 := by
        rcases Int.mul_eq_zero.1 hm0 with h' | h'
        · omega
        · exact h'
      rw [hl] at ih
      rw [hz, ih]
      simp [dg_zero, hd]
    · have hne : ¬ (trimL l = [] ∧ d = 0) := fun ⟨h1, h2⟩ => by
        have : val B (trimL l) = 0 := by rw [h1]; rfl
        rw [trim_val] at this
        apply hz; rw [this, h2]; simp
      rw [if_neg hne, dg_pos hB (by omega), ih]
      obtain ⟨v, hvv⟩ : ∃ v : Nat, val B l = v := ⟨(val B l).toNat, by omega⟩
      obtain ⟨e, hee⟩ : ∃ e : Nat, d = e := ⟨d.toNat, by omega⟩
      rw [hvv, hee]
      have e1 : ((e : Int) + (B : Int) * (v : Int)).toNat = e + B * v := by
        rw [← Int.natCast_mul, ← Int.natCast_add]; rfl
      have hel : e < B := by omega
      rw [e1]
      congr 2
      · rw [Nat.add_mul_mod_self_left, Nat.mod_eq_of_lt hel]
      · rw [Nat.add_mul_div_left _ _ (by omega), Nat.div_eq_of_lt hel]; simp
theorem dg_trim {B : Nat} (hB : 2 ≤ B) (n : Nat) : trimL (dg B n) = dg B n := by
  rw [trim_eq hB (dg_digs hB n), dg_val hB]; simp
theorem dg_nil {B : Nat} (hB : 2 ≤ B) {n : Nat} : dg B n = [] ↔ n = 0 := by
  constructor
  · intro h
    have := dg_val hB n
    rw [h] at this
    simp [val] at this
    omega
  · rintro rfl; exact dg_zero B
theorem dg_len_le {B : Nat} (hB : 2 ≤ B) : ∀ {k n : Nat}, n < B ^ k → (dg B n).length ≤ k
  | 0, n, h => by
    have : n = 0 := by simpa using h
    subst this; rw [dg_zero]; simp
  | k + 1, n, h => by
    by_cases hn : n = 0
    · subst hn; rw [dg_zero]; simp
    · rw [dg_pos hB hn]
      have := dg_len_le hB (k := k) (n := n / B) (by rw [Nat.div_lt_iff_lt_mul (by omega)]; rw [Nat.pow_succ] at h; exact h)
      simp; omega
theorem dg_lt {B : Nat} (hB : 2 ≤ B) (n : Nat) : n < B ^ (dg B n).length := by
  have h := val_lt (B := B) (by omega) (dg_digs hB n)
  rw [dg_val hB] at h
  exact_mod_cast h
theorem dg_len_lt {B : Nat} (hB : 2 ≤ B) {a b : Nat} (h : (dg B a).length < (dg B b).length) : a < b := by
  rcases Nat.lt_or_ge a b with h' | h'
  · exact h'
  · exfalso
    have := dg_len_le hB (Nat.lt_of_le_of_lt h' (dg_lt hB a))
    omega
/-- the length of a number's digits in base ten -/
theorem dg_nDigits {n : Nat} (hn : n ≠ 0) : (dg 10 n).length = Lib.nDigits n := by
  induction n using Nat.strongRecOn with
  | _ n ih =>
    rw [dg_pos (by omega) hn]
    by_cases h : n < 10
    · rw [Lib.nDigits_small h, Nat.div_eq_of_lt h, dg_zero]; rfl
    · rw [Lib.nDigits_big h, List.length_cons, ih (n / 10) (by omega) (by omega)]

/-! comparing -/
theorem cmp_top {B : Int} (hB : 0 < B) {a b : List Int} (ha : digs B a) (hb : digs B b) {x y : Int} {i : Nat} (hx : a[i]? = some x) (hy : b[i]? = some y) (he : a.drop (i + 1) = b.drop (i + 1)) (hxy : x < y) : val B a < val B b := by
  have hi := (List.getElem?_eq_some_iff.1 hx).1
  have hi' := (List.getElem?_eq_some_iff.1 hy).1
  rw [val_split B a i (by omega), val_split B b i (by omega), val_drop B hx, val_drop B hy, he]
  have h1 := val_lt hB (digs_take ha i)
  have h2 := val_nonneg hB (digs_take hb i)
  rw [List.length_take, Nat.min_eq_left (by omega)] at h1
  generalize val B (b.drop (i + 1)) = z at *
  have hp := pow_pos' hB i
  have : B ^ i * (x + B * z + 1) ≤ B ^ i * (y + B * z) := Int.mul_le_mul_of_nonneg_left (by omega) (by omega)
  rw [Int.mul_add, Int.mul_one] at this
  omega
end Go.Wh

namespace Go.Wh
theorem getD_out {l : List Int} {i : Nat} (h : l.length ≤ i) : l.getD i 0 = 0 := by simp [List.getD, List.getElem?_eq_none h]
theorem getD_in {l : List Int} {i : Nat} {d : Int} (h : l[i]? = some d) : l.getD i 0 = d := by simp [List.getD, h]
theorem take_getD (B : Int) (l : List Int) (i : Nat) : val B (l.take (i + 1)) = val B (l.take i) + B ^ i * l.getD i 0 := by
  rcases Nat.lt_or_ge i l.length with h | h
  · have e : l[i]? = some l[i] := List.getElem?_eq_getElem h
    rw [val_take_succ B e, getD_in e]
  · rw [val_take_all B h, val_take_all B (by omega), getD_out h]; simp
theorem getD_digs {B : Int} (hB : 0 < B) {l : List Int} (h : digs B l) (i : Nat) : 0 ≤ l.getD i 0 ∧ l.getD i 0 < B := by
  rcases Nat.lt_or_ge i l.length with hi | hi
  · have e : l[i]? = some l[i] := List.getElem?_eq_getElem hi
    rw [getD_in e]; exact digs_at h e
  · rw [getD_out hi]; omega
theorem div_mod_of {B n : Int} (hB : 0 < B) (hn : 0 ≤ n) : n.tmod B = n % B ∧ n.tdiv B = n / B ∧ 0 ≤ n % B ∧ n % B < B ∧ 0 ≤ n / B ∧ B * (n / B) + n % B = n := by
  refine ⟨Int.tmod_eq_emod_of_nonneg hn, Int.tdiv_eq_ediv_of_nonneg hn, Int.emod_nonneg _ (by omega), Int.emod_lt_of_pos _ hB, Int.ediv_nonneg hn (by omega), Int.mul_ediv_add_emod n B⟩

/-! adding -/
def PlusI (B : Int) (a b : List Int) (i : Nat) (out : List Int) (c : Int) : Prop :=
  out.length = i ∧ digs B out ∧ (c = 0 ∨ c = 1) ∧ val B out + B ^ i * c = val B (a.take i) + val B (b.take i)
theorem plus_init (B : Int) (a b : List Int) : PlusI B a b 0 [] 0 := ⟨rfl, digs_nil B, .inl rfl, by simp [val]⟩
theorem plus_step {B : Int} (hB : 2 ≤ B) {a b : List Int} (ha : digs B a) (hb : digs B b) {i : Nat} {out : List Int} {c : Int} (h : PlusI B a b i out c) :
    PlusI B a b (i + 1) (out ++ [(c + a.getD i 0 + b.getD i 0) % B]) ((c + a.getD i 0 + b.getD i 0) / B) := by
  obtain ⟨h1, h2, h3, h4⟩ := h
  have q1 := getD_digs (by omega) ha i
  have q2 := getD_digs (by omega) hb i
  rw [← h1] at *
  generalize hx : a.getD out.length 0 = x at *
  generalize hy : b.getD out.length 0 = y at *
  obtain ⟨_, _, m1, m2, m3, m4⟩ := div_mod_of (B := B) (n := c + x + y) (by omega) (by omega)
  refine ⟨by simp, digs_app.2 ⟨h2, by simp [digs]; exact ⟨m1, m2⟩⟩, ?_, ?_⟩
  · have : (c + x + y) / B < 2 := by
      refine Decidable.byContradiction fun h => ?_
      have : B * 2 ≤ B * ((c + x + y) / B) := Int.mul_le_mul_of_nonneg_left (by omega) (by omega)
      omega
    omega
  · rw [val_snoc, take_getD, take_getD, hx, hy, Int.pow_succ]
    grind
theorem plus_done {B : Int} {a b : List Int} {i : Nat} {out : List Int} (h : PlusI B a b i out 0) (h1 : a.length ≤ i) (h2 : b.length ≤ i) : digs B out ∧ val B out = val B a + val B b := by
  obtain ⟨_, h3, _, h4⟩ := h
  rw [val_take_all B h1, val_take_all B h2] at h4
  exact ⟨h3, by simpa using h4⟩

/-! taking away -/
def LessI (B : Int) (a b : List Int) (i : Nat) (out : List Int) (c : Int) : Prop :=
  out.length = i ∧ digs B out ∧ (c = 0 ∨ c = 1) ∧ val B out - B ^ i * c = val B (a.take i) - val B (b.take i)
theorem less_init (B : Int) (a b : List Int) : LessI B a b 0 [] 0 := ⟨rfl, digs_nil B, .inl rfl, by simp [val]⟩
theorem less_step {B : Int} (hB : 2 ≤ B) {a b : List Int} (ha : digs B a) (hb : digs B b) {i : Nat} {out : List Int} {c : Int} (h : LessI B a b i out c) :
    LessI B a b (i + 1) (out ++ [if a.getD i 0 - c - b.getD i 0 < 0 then a.getD i 0 - c - b.getD i 0 + B else a.getD i 0 - c - b.getD i 0]) (if a.getD i 0 - c - b.getD i 0 < 0 then 1 else 0) := by
  obtain ⟨h1, h2, h3, h4⟩ := h
  have q1 := getD_digs (by omega) ha i
  have q2 := getD_digs (by omega) hb i
  rw [← h1] at *
  generalize hx : a.getD out.length 0 = x at *
  generalize hy : b.getD out.length 0 = y at *
  refine ⟨by simp, digs_app.2 ⟨h2, by simp [digs]; split <;> omega⟩, by split <;> simp, ?_⟩
  rw [val_snoc, take_getD, take_getD, hx, hy, Int.pow_succ]
  split <;> grind
theorem less_done {B : Int} (hB : 2 ≤ B) {a b : List Int} {out : List Int} {c : Int} (h : LessI B a b a.length out c) (hl : b.length ≤ a.length) (hv : val B b ≤ val B a) : digs B out ∧ val B out = val B a - val B b := by
  obtain ⟨h1, h3, h5, h4⟩ := h
  rw [val_take_all B (Nat.le_refl _), val_take_all B hl] at h4
  have hlt := val_lt (by omega) h3
  rw [h1] at hlt
  refine ⟨h3, ?_⟩
  rcases h5 with rfl | rfl
  · simpa using h4
  · exfalso; omega

/-! the size of a list against its value -/
theorem pow_mono {B : Int} (hB : 1 ≤ B) (a : Nat) : ∀ d, B ^ a ≤ B ^ (a + d)
  | 0 => Int.le_refl _
  | d + 1 => by
    have ih := pow_mono hB a d
    have hp := pow_pos' (B := B) (by omega) (a + d)
    have : B ^ (a + d) * 1 ≤ B ^ (a + d) * B := Int.mul_le_mul_of_nonneg_left hB (by omega)
    rw [← Nat.add_assoc, Int.pow_succ]
    omega
theorem pow_le {B : Int} (hB : 1 ≤ B) {a b : Nat} (h : a ≤ b) : B ^ a ≤ B ^ b := by
  obtain ⟨d, rfl⟩ := Nat.exists_eq_add_of_le h
  exact pow_mono hB a d
theorem len_of_val {B : Int} (hB : 2 ≤ B) {a b : List Int} (ha : digs B a) (hb : digs B b) (hn : trimL b = b) (hv : val B b ≤ val B a) : b.length ≤ a.length := by
  rcases Nat.lt_or_ge a.length b.length with h | h
  · exfalso
   
    obtain ⟨l, d, rfl⟩ : ∃ l d, b = l ++ [d] := by
      rcases List.eq_nil_or_concat b with rfl | ⟨l, d, rfl⟩
      · simp at h
      · exact ⟨l, d, by simp⟩
    have hd : d ≠ 0 := by
      rintro rfl
      rw [trim_snoc0] at hn
      have := trim_len l
      rw [hn, List.length_append, List.length_singleton] at this
      omega
    rw [digs_app] at hb
    have hd2 := hb.2 d (by simp)
    rw [val_snoc] at hv
    have h1 := val_nonneg (by omega) hb.1
    have h2 := val_lt (by omega) ha
    simp only [List.length_append, List.length_singleton] at h
    have h3 : B ^ a.length ≤ B ^ l.length := pow_le (by omega) (by omega)
    have h4 : B ^ l.length * 1 ≤ B ^ l.length * d := Int.mul_le_mul_of_nonneg_left (by omega) (Int.le_of_lt (pow_pos' (by omega) _))
    omega
  · exact h
end Go.Wh

set_option linter.unusedVariables false
set_option linter.unusedSimpArgs false
namespace Go.Wh
theorem set_getD_ne {l : List Int} {i j : Nat} {v : Int} (h : i ≠ j) : (l.set i v).getD j 0 = l.getD j 0 := by
  simp [List.getD, List.getElem?_set_ne h]
theorem set_getD_eq {l : List Int} {i : Nat} {v : Int} (h : i < l.length) : (l.set i v).getD i 0 = v := by
  simp [List.getD, h]
theorem at_of_lt {l : List Int} {i : Nat} (h : i < l.length) : l[i]? = some (l.getD i 0) := by
  simp [List.getD, h]
theorem digs_iff {B : Int} {l : List Int} : digs B l ↔ ∀ i, i < l.length → 0 ≤ l.getD i 0 ∧ l.getD i 0 < B := by
  constructor
  · intro h i hi
    exact digs_at h (at_of_lt hi)
  · intro h d hd
    obtain ⟨i, hi, rfl⟩ := List.getElem_of_mem hd
    have := h i hi
    simpa [List.getD, hi] using this

/-! multiplying, digit by digit, the carry at once -/
def MulI (B : Int) (a b : List Int) (i : Nat) (out : List Int) : Prop :=
  out.length = a.length + b.length ∧ digs B out ∧ (∀ j, i + b.length ≤ j → out.getD j 0 = 0) ∧ val B out = val B (a.take i) * val B b
def MulK (B : Int) (a b : List Int) (i k : Nat) (out : List Int) (c : Int) : Prop :=
  out.length = a.length + b.length ∧ digs B out ∧ (0 ≤ c ∧ c < B) ∧ (∀ j, i + b.length ≤ j → out.getD j 0 = 0) ∧ val B out + B ^ (i + k) * c = val B (a.take i) * val B b + B ^ i * a.getD i 0 * val B (b.take k)
theorem mul_init {B : Int} (hB : 2 ≤ B) (a b : List Int) : MulI B a b 0 (List.replicate (a.length + b.length) 0) :=
  ⟨by simp, digs_rep (by omega) _, fun j _ => by simp [List.getD, List.getElem?_replicate]; split <;> rfl, by rw [val_rep]; simp [val]⟩
theorem mul_row {B : Int} (hB : 2 ≤ B) {a b : List Int} {i : Nat} {out : List Int} (h : MulI B a b i out) : MulK B a b i 0 out 0 := by
  obtain ⟨h1, h2, h3, h4⟩ := h
  exact ⟨h1, h2, by omega, h3, by simp [h4, val]⟩
theorem mul_bound {B d x y c : Int} (hd : 0 ≤ d ∧ d < B) (hx : 0 ≤ x ∧ x < B) (hy : 0 ≤ y ∧ y < B) (hc : 0 ≤ c ∧ c < B) : 0 ≤ d + x * y + c ∧ d + x * y + c < B * B := by
  have h1 : 0 ≤ x * y := Int.mul_nonneg hx.1 hy.1
  have h2 : x * y ≤ (B - 1) * (B - 1) := Int.mul_le_mul (by omega) (by omega) hy.1 (by omega)
  have h3 : (B - 1) * (B - 1) = B * B - 2 * B + 1 := by grind
  omega
theorem mul_step {B : Int} (hB : 2 ≤ B) {a b : List Int} (ha : digs B a) (hb : digs B b) {i k : Nat} {out : List Int} {c : Int} (hi : i < a.length) (hk : k < b.length) (h : MulK B a b i k out c) :
    MulK B a b i (k + 1) (out.set (i + k) ((out.getD (i + k) 0 + a.getD i 0 * b.getD k 0 + c) % B)) ((out.getD (i + k) 0 + a.getD i 0 * b.getD k 0 + c) / B) ∧
      0 ≤ out.getD (i + k) 0 + a.getD i 0 * b.getD k 0 + c ∧ out.getD (i + k) 0 + a.getD i 0 * b.getD k 0 + c < B * B := by
  obtain ⟨h1, h2, h3, h4, h5⟩ := h
  have q1 := getD_digs (by omega) ha i
  have q2 := getD_digs (by omega) hb k
  have q3 := getD_digs (by omega) h2 (i + k)
  have hat : out[i + k]? = some (out.getD (i + k) 0) := at_of_lt (by omega)
  have hv := val_set B hat (v := (out.getD (i + k) 0 + a.getD i 0 * b.getD k 0 + c) % B)
  generalize hx : a.getD i 0 = x at *
  generalize hy : b.getD k 0 = y at *
  generalize hd : out.getD (i + k) 0 = d at *
  obtain ⟨n1, n2⟩ := mul_bound q3 q1 q2 h3
  obtain ⟨_, _, m1, m2, m3, m4⟩ := div_mod_of (B := B) (n := d + x * y + c) (by omega) n1
  refine ⟨⟨by simp [h1], digs_set h2 _ ⟨m1, m2⟩, ⟨m3, ?_⟩, fun j hj => ?_, ?_⟩, n1, n2⟩
  · refine Decidable.byContradiction fun hc => ?_
    have : B * B ≤ B * ((d + x * y + c) / B) := Int.mul_le_mul_of_nonneg_left (by omega) (by omega)
    omega
  · rw [set_getD_ne (by omega)]; exact h4 j hj
  · rw [hv, take_getD, hx, hy, ← Nat.add_assoc, Int.pow_succ]
    have e : B ^ (i + k) = B ^ i * B ^ k := Int.pow_add _ _ _
    rw [e] at h5 ⊢
    grind
theorem mul_end {B : Int} (hB : 2 ≤ B) {a b : List Int} {i : Nat} {out : List Int} {c : Int} (hi : i < a.length) (h : MulK B a b i b.length out c) :
    MulI B a b (i + 1) (out.set (i + b.length) (out.getD (i + b.length) 0 + c)) ∧ 0 ≤ out.getD (i + b.length) 0 + c ∧ out.getD (i + b.length) 0 + c < B := by
  obtain ⟨h1, h2, h3, h4, h5⟩ := h
  have h0 := h4 (i + b.length) (Nat.le_refl _)
  have hat : out[i + b.length]? = some (out.getD (i + b.length) 0) := at_of_lt (by omega)
  have hv := val_set B hat (v := out.getD (i + b.length) 0 + c)
  rw [h0] at hv ⊢
  refine ⟨⟨by simp [h1], digs_set h2 _ (by omega), fun j hj => ?_, ?_⟩, by omega, by omega⟩
  · rw [set_getD_ne (by omega)]; exact h4 j (by omega)
  · rw [hv, take_getD]
    rw [List.take_length] at h5
    generalize a.getD i 0 = x at *
    grind
theorem mul_done {B : Int} {a b : List Int} {out : List Int} (h : MulI B a b a.length out) : digs B out ∧ val B out = val B a * val B b := by
  obtain ⟨_, h2, _, h4⟩ := h
  rw [List.take_length] at h4
  exact ⟨h2, h4⟩

/-! multiplying, the carry behind -/
def TimI (a b : List Int) (i : Nat) (out : List Int) : Prop :=
  out.length = a.length + b.length + 1 ∧ (∀ j, 0 ≤ out.getD j 0 ∧ out.getD j 0 ≤ 81 * i) ∧ val 10 out = val 10 (a.take i) * val 10 b
def TimK (a b : List Int) (i k : Nat) (out : List Int) : Prop :=
  out.length = a.length + b.length + 1 ∧ (∀ j, 0 ≤ out.getD j 0 ∧ out.getD j 0 ≤ 81 * i + if j < i + k then 81 else 0) ∧ val 10 out = val 10 (a.take i) * val 10 b + 10 ^ i * a.getD i 0 * val 10 (b.take k)
theorem tim_init (a b : List Int) : TimI a b 0 (List.replicate (a.length + b.length + 1) 0) := by
  refine ⟨by simp, fun j => ?_, by rw [val_rep]; simp [val]⟩
  have : (List.replicate (a.length + b.length + 1) (0 : Int)).getD j 0 = 0 := by simp [List.getD, List.getElem?_replicate]; split <;> rfl
  rw [this]; simp
theorem tim_row {a b : List Int} {i : Nat} {out : List Int} (h : TimI a b i out) : TimK a b i 0 out := by
  obtain ⟨h1, h2, h3⟩ := h
  refine ⟨h1, fun j => ⟨(h2 j).1, ?_⟩, by simp [h3, val]⟩
  have := (h2 j).2
  split <;> omega
theorem tim_step {a b : List Int} (ha : digs 10 a) (hb : digs 10 b) {i k : Nat} {out : List Int} (hi : i < a.length) (hk : k < b.length) (h : TimK a b i k out) :
    TimK a b i (k + 1) (out.set (i + k) (out.getD (i + k) 0 + a.getD i 0 * b.getD k 0)) ∧ 0 ≤ a.getD i 0 * b.getD k 0 ∧ a.getD i 0 * b.getD k 0 ≤ 81 ∧ 0 ≤ out.getD (i + k) 0 ∧ out.getD (i + k) 0 ≤ 81 * i := by
  obtain ⟨h1, h2, h3⟩ := h
  have q1 := getD_digs (by omega) ha i
  have q2 := getD_digs (by omega) hb k
  have hat : out[i + k]? = some (out.getD (i + k) 0) := at_of_lt (by omega)
  have hv := val_set 10 hat (v := out.getD (i + k) 0 + a.getD i 0 * b.getD k 0)
  have h2k := h2 (i + k)
  rw [if_neg (by omega)] at h2k
  have hp1 : 0 ≤ a.getD i 0 * b.getD k 0 := Int.mul_nonneg q1.1 q2.1
  have hp2 : a.getD i 0 * b.getD k 0 ≤ 9 * 9 := Int.mul_le_mul (by omega) (by omega) q2.1 (by omega)
  generalize hx : a.getD i 0 = x at *
  generalize hy : b.getD k 0 = y at *
  generalize hd : out.getD (i + k) 0 = d at *
  refine ⟨⟨by simp [h1], fun j => ?_, ?_⟩, by omega, by omega, by omega, by omega⟩
  · by_cases hj : i + k = j
    · subst hj
      rw [set_getD_eq (by omega), if_pos (by omega)]
      omega
    · rw [set_getD_ne hj]
      have := h2 j
      by_cases hlt : j < i + k
      · rw [if_pos hlt] at this; rw [if_pos (by omega)]; exact this
      · rw [if_neg hlt] at this; rw [if_neg (by omega)]; exact this
  · rw [hv, take_getD, hx, hy]
    have e : (10 : Int) ^ (i + k) = 10 ^ i * 10 ^ k := Int.pow_add _ _ _
    rw [e]
    grind
theorem tim_end {a b : List Int} {i : Nat} {out : List Int} (h : TimK a b i b.length out) : TimI a b (i + 1) out := by
  obtain ⟨h1, h2, h3⟩ := h
  rw [List.take_length] at h3
  refine ⟨h1, fun j => ⟨(h2 j).1, ?_⟩, ?_⟩
  · have := (h2 j).2
    split at this <;> omega
  · rw [take_getD]; grind
/-- the carries -/
def CarI (M : Int) (V : Int) (n i : Nat) (out : List Int) : Prop :=
  out.length = n ∧ (∀ j, 0 ≤ out.getD j 0) ∧ (∀ j, j < i → out.getD j 0 < 10) ∧ out.getD i 0 ≤ 2 * M ∧ (∀ j, i < j → out.getD j 0 ≤ M) ∧ val 10 out = V
theorem car_init {a b : List Int} {out : List Int} (h : TimI a b a.length out) : CarI (81 * a.length) (val 10 a * val 10 b) (a.length + b.length + 1) 0 out := by
  obtain ⟨h1, h2, h3⟩ := h
  rw [List.take_length] at h3
  exact ⟨h1, fun j => (h2 j).1, fun j hj => absurd hj (by omega), by have := (h2 0); omega, fun j _ => (h2 j).2, h3⟩
theorem car_step {M V : Int} {n i : Nat} {out : List Int} (hi : i + 1 < n) (h : CarI M V n i out) :
    CarI M V n (i + 1) ((out.set (i + 1) (out.getD (i + 1) 0 + out.getD i 0 / 10)).set i (out.getD i 0 % 10)) ∧ (0 ≤ out.getD i 0 ∧ out.getD i 0 ≤ 2 * M) ∧ 0 ≤ out.getD (i + 1) 0 ∧ out.getD (i + 1) 0 ≤ M := by
  obtain ⟨h1, h2, h3, h4, h5, h6⟩ := h
  have p0 := h2 i
  have p1 := h2 (i + 1)
  have p2 := h5 (i + 1) (by omega)
  have hat1 : out[i + 1]? = some (out.getD (i + 1) 0) := at_of_lt (by omega)
  have hv1 := val_set 10 hat1 (v := out.getD (i + 1) 0 + out.getD i 0 / 10)
  have hg : (out.set (i + 1) (out.getD (i + 1) 0 + out.getD i 0 / 10)).getD i 0 = out.getD i 0 := set_getD_ne (by omega)
  have hat2 : (out.set (i + 1) (out.getD (i + 1) 0 + out.getD i 0 / 10))[i]? = some (out.getD i 0) := (at_of_lt (l := out.set (i + 1) (out.getD (i + 1) 0 + out.getD i 0 / 10)) (i := i) (by rw [List.length_set]; omega)).trans (congrArg some hg)
  have hv2 := val_set 10 hat2 (v := out.getD i 0 % 10)
  have get : ∀ j, ((out.set (i + 1) (out.getD (i + 1) 0 + out.getD i 0 / 10)).set i (out.getD i 0 % 10)).getD j 0 = if j = i then out.getD i 0 % 10 else if j = i + 1 then out.getD (i + 1) 0 + out.getD i 0 / 10 else out.getD j 0 := fun j => by
    by_cases e1 : j = i
    · subst e1; rw [if_pos rfl, set_getD_eq (by simp; omega)]
    · rw [if_neg e1, set_getD_ne (by omega)]
      by_cases e2 : j = i + 1
      · subst e2; rw [if_pos rfl, set_getD_eq (by omega)]
      · rw [if_neg e2, set_getD_ne (by omega)]
  generalize hd : out.getD i 0 = d at *
  generalize he : out.getD (i + 1) 0 = e at *
  refine ⟨⟨by simp [h1], fun j => ?_, fun j hj => ?_, ?_, fun j hj => ?_, ?_⟩, ⟨p0, h4⟩, p1, p2⟩
  · rw [get]; split
    · omega
    · split
      · omega
      · exact h2 j
  · rw [get]; split
    · omega
    · rw [if_neg (by omega)]; exact h3 j (by omega)
  · rw [get, if_neg (by omega), if_pos rfl]; omega
  · rw [get, if_neg (by omega), if_neg (by omega)]; exact h5 j (by omega)
  · rw [hv2, hv1, h6, Int.pow_succ]
    have := Int.mul_ediv_add_emod d 10
    generalize d / 10 = q at *
    generalize d % 10 = r at *
    subst this
    grind
theorem car_done {a b : List Int} {M : Int} {out : List Int} (ha : digs 10 a) (hb : digs 10 b) (h : CarI M (val 10 a * val 10 b) (a.length + b.length + 1) (a.length + b.length) out) : digs 10 out ∧ val 10 out = val 10 a * val 10 b := by
  obtain ⟨h1, h2, h3, h4, h5, h6⟩ := h
  refine ⟨?_, h6⟩
  have hat : out[a.length + b.length]? = some (out.getD (a.length + b.length) 0) := at_of_lt (by omega)
  have hs := val_take_succ 10 hat
  rw [val_take_all 10 (by omega), h6] at hs
  have hd : digs 10 (out.take (a.length + b.length)) := digs_iff.2 fun i hi => by
    rw [List.length_take] at hi
    have e : (out.take (a.length + b.length)).getD i 0 = out.getD i 0 := by simp [List.getD, List.getElem?_take, show i < a.length + b.length by omega]
    rw [e]
    exact ⟨h2 i, h3 i (by omega)⟩
  have l1 := val_nonneg (by omega) hd
  have u1 := val_lt (B := 10) (by omega) ha
  have u2 := val_lt (B := 10) (by omega) hb
  have n1 := val_nonneg (B := 10) (by omega) ha
  have n2 := val_nonneg (B := 10) (by omega) hb
  have hlt : val 10 a * val 10 b < 10 ^ (a.length + b.length) := by
    rw [Int.pow_add]
    have := pow_pos' (B := 10) (by omega) a.length
    rcases Int.lt_or_eq_of_le n1 with h | h
    · have s1 : val 10 a * val 10 b < val 10 a * 10 ^ b.length := Int.mul_lt_mul_of_pos_left u2 h
      have s2 : val 10 a * 10 ^ b.length ≤ 10 ^ a.length * 10 ^ b.length := Int.mul_le_mul_of_nonneg_right (by omega) (Int.le_of_lt (pow_pos' (by omega) _))
      omega
    · rw [← h, Int.zero_mul]
      exact Int.mul_pos this (pow_pos' (by omega) _)
  have hl0 : out.getD (a.length + b.length) 0 = 0 := by
    have p := h2 (a.length + b.length)
    refine Decidable.byContradiction fun hne => ?_
    have : (10 : Int) ^ (a.length + b.length) * 1 ≤ 10 ^ (a.length + b.length) * out.getD (a.length + b.length) 0 := Int.mul_le_mul_of_nonneg_left (by omega) (Int.le_of_lt (pow_pos' (by omega) _))
    omega
  refine digs_iff.2 fun i hi => ⟨h2 i, ?_⟩
  by_cases hii : i < a.length + b.length
  · exact h3 i hii
  · have : i = a.length + b.length := by omega
    subst this
    rw [hl0]; omega

/-! dividing, from the top -/
def DivI (B : Int) (a : List Int) (n : Int) (j : Nat) (q : List Int) (r : Int) : Prop :=
  q.length = a.length ∧ digs B q ∧ (0 ≤ r ∧ r < n) ∧ val B (a.drop j) = n * val B (q.drop j) + r
theorem div_init {B : Int} (hB : 2 ≤ B) (a : List Int) {n : Int} (hn : 0 < n) : DivI B a n a.length (List.replicate a.length 0) 0 :=
  ⟨by simp, digs_rep (by omega) _, by omega, by simp [val]⟩
theorem div_step {B : Int} (hB : 2 ≤ B) {a : List Int} {n : Int} (hn : 0 < n) (ha : digs B a) {i : Nat} {q : List Int} {r : Int} (hi : i < a.length) (h : DivI B a n (i + 1) q r) :
    DivI B a n i (q.set i ((r * B + a.getD i 0) / n)) ((r * B + a.getD i 0) % n) ∧ (0 ≤ r * B + a.getD i 0 ∧ r * B + a.getD i 0 < n * B) ∧ 0 ≤ (r * B + a.getD i 0) / n ∧ (r * B + a.getD i 0) / n < B := by
  obtain ⟨h1, h2, h3, h4⟩ := h
  have q1 := getD_digs (by omega) ha i
  have hx0 : 0 ≤ r * B := Int.mul_nonneg h3.1 (by omega)
  have hx1 : r * B ≤ (n - 1) * B := Int.mul_le_mul_of_nonneg_right (by omega) (by omega)
  rw [Int.sub_mul, Int.one_mul] at hx1
  have hd : val B (a.drop i) = a.getD i 0 + B * val B (a.drop (i + 1)) := val_drop B (at_of_lt hi)
  generalize a.getD i 0 = x at *
  have m1 := Int.emod_nonneg (r * B + x) (show n ≠ 0 by omega)
  have m2 := Int.emod_lt_of_pos (r * B + x) hn
  have m3 : 0 ≤ (r * B + x) / n := Int.ediv_nonneg (by omega) (by omega)
  have m4 := Int.mul_ediv_add_emod (r * B + x) n
  have m5 : (r * B + x) / n < B := Int.ediv_lt_of_lt_mul hn (by rw [Int.mul_comm B n]; omega)
  refine ⟨⟨by simp [h1], digs_set h2 _ ⟨m3, m5⟩, ⟨m1, m2⟩, ?_⟩, ⟨by omega, by omega⟩, m3, m5⟩
  have e : (q.set i ((r * B + x) / n)).drop i = ((r * B + x) / n) :: q.drop (i + 1) := by
    rw [List.drop_eq_getElem_cons (by simp; omega)]
    simp [List.drop_set_of_lt]
  rw [e, hd, h4]
  simp only [val]
  generalize (r * B + x) / n = y at *
  generalize (r * B + x) % n = z at *
  grind
theorem div_done {B : Int} (hB : 2 ≤ B) {a : List Int} {n : Int} (hn : 0 < n) {q : List Int} {r : Int} (h : DivI B a n 0 q r) : digs B q ∧ val B q = val B a / n ∧ r = val B a % n := by
  obtain ⟨_, h2, h3, h4⟩ := h
  simp only [List.drop_zero] at h4
  rw [h4]
  refine ⟨h2, ?_, ?_⟩
  · rw [Int.add_comm, Int.add_mul_ediv_left _ _ (by omega), Int.ediv_eq_zero_of_lt h3.1 h3.2]; simp
  · rw [Int.add_comm, Int.add_mul_emod_self_left, Int.emod_eq_of_lt h3.1 h3.2]
end Go.Wh

set_option linter.unusedVariables false
set_option linter.unusedSimpArgs false
namespace Go.Wh
open Go.Lib
/-! decimal numerals -/
def dgt (c : UInt8) : Nat := c.toNat - 48
def isD (c : UInt8) : Bool := decide (48 ≤ c.toNat) && decide (c.toNat ≤ 57)
def decVal (s : List UInt8) : Nat := s.foldl (fun n c => n * 10 + dgt c) 0
theorem fold_shift : ∀ (s : List UInt8) (a : Nat), s.foldl (fun n c => n * 10 + dgt c) a = a * 10 ^ s.length + decVal s
  | [], a => by simp [decVal]
  | c :: s, a => by
    have h1 := fold_shift s (a * 10 + dgt c)
    have h2 := fold_shift s (0 * 10 + dgt c)
    simp only [decVal, List.foldl_cons, List.length_cons] at h1 h2 ⊢
    rw [h1, h2, Nat.pow_succ]
    grind
theorem decVal_app (a b : List UInt8) : decVal (a ++ b) = decVal a * 10 ^ b.length + decVal b := by
  unfold decVal
  rw [List.foldl_append]
  exact fold_shift b _
theorem decVal_snoc (a : List UInt8) (c : UInt8) : decVal (a ++ [c]) = decVal a * 10 + dgt c := by
  rw [decVal_app]; simp [decVal]
theorem ofNat_dgt {k : Nat} (h : k < 10) : dgt (UInt8.ofNat (48 + k)) = k := by
  have : (UInt8.ofNat (48 + k)).toNat = 48 + k := by simp [UInt8.toNat_ofNat']; omega
  unfold dgt; omega
theorem dgt_back {c : UInt8} (h : isD c = true) : UInt8.ofNat (48 + dgt c) = c := by
  simp [isD] at h
  apply UInt8.toNat_inj.1
  have : (UInt8.ofNat (48 + dgt c)).toNat = 48 + dgt c := by simp [UInt8.toNat_ofNat', dgt]; omega
  rw [this]; unfold dgt; omega
theorem dgt_lt {c : UInt8} (h : isD c = true) : dgt c < 10 := by simp [isD] at h; unfold dgt; omega
theorem isD_ofNat {k : Nat} (h : k < 10) : isD (UInt8.ofNat (48 + k)) = true := by
  have : (UInt8.ofNat (48 + k)).toNat = 48 + k := by simp [UInt8.toNat_ofNat']; omega
  simp [isD, this]; omega
theorem snoc_ind {α : Type} {p : List α → Prop} (h0 : p []) (hs : ∀ t c, p t → p (t ++ [c])) (s : List α) : p s := by
  have : ∀ (r : List α), p r.reverse := by
    intro r
    induction r with
    | nil => exact h0
    | cons c t ih => rw [List.reverse_cons]; exact hs _ _ ih
  have h := this s.reverse
  rwa [List.reverse_reverse] at h
theorem head_app {α : Type} {a b : List α} (h : a ≠ []) : (a ++ b).head? = a.head? := by
  cases a with
  | nil => exact absurd rfl h
  | cons c r => rfl
theorem decVal_lt : ∀ {s : List UInt8}, (∀ c ∈ s, isD c = true) → decVal s < 10 ^ s.length := by
  intro s
  induction s using snoc_ind with
  | h0 => simp [decVal]
  | hs t c ih =>
    intro h
    have h1 := ih (fun x hx => h x (by simp [hx]))
    have h2 := dgt_lt (h c (by simp))
    rw [decVal_snoc, List.length_append, List.length_singleton, Nat.pow_succ]
    omega
theorem dec_dec : ∀ u, decVal (decDigits u) = u := by
  intro u
  induction u using Nat.strongRecOn with
  | _ u ih =>
    rw [decDigits]
    split
    · rename_i h; simp only [decVal, List.foldl_cons, List.foldl_nil]; rw [ofNat_dgt h]; omega
    · rename_i h
      rw [decVal_snoc, ih _ (by omega), ofNat_dgt (by omega)]
      omega
theorem decDigits_isD : ∀ u, ∀ c ∈ decDigits u, isD c = true := by
  intro u
  induction u using Nat.strongRecOn with
  | _ u ih =>
    rw [decDigits]
    split
    · rename_i h; intro c hc; rw [List.mem_singleton] at hc; subst hc; exact isD_ofNat h
    · rename_i h
      intro c hc
      rw [List.mem_append, List.mem_singleton] at hc
      rcases hc with hc | rfl
      · exact ih _ (by omega) c hc
      · exact isD_ofNat (by omega)
theorem decDigits_ne (u : Nat) : decDigits u ≠ [] := by rw [decDigits]; split <;> simp
theorem decDigits_head : ∀ u, u ≠ 0 → (decDigits u).head? ≠ some 48 := by
  intro u
  induction u using Nat.strongRecOn with
  | _ u ih =>
    intro h0
    rw [decDigits]
    split
    · rename_i h
      simp only [List.head?_cons, ne_eq, Option.some.injEq]
      intro e
      have := congrArg dgt e
      rw [ofNat_dgt h] at this
      have : dgt 48 = 0 := by decide
      omega
    · rename_i h
      rw [head_app (decDigits_ne _)]
      exact ih _ (by omega) (by omega)
theorem decVal_pos : ∀ {s : List UInt8}, s ≠ [] → s.head? ≠ some 48 → (∀ c ∈ s, isD c = true) → 0 < decVal s
  | [], h, _, _ => absurd rfl h
  | c :: s, _, h, hd => by
    have e : decVal (c :: s) = dgt c * 10 ^ s.length + decVal s := by
      have := fold_shift s (0 * 10 + dgt c)
      simpa [decVal] using this
    rw [e]
    have h1 := hd c (by simp)
    have : dgt c ≠ 0 := fun h0 => h (by
      have := dgt_back h1
      rw [h0] at this
      simp [← this])
    have hp : 0 < 10 ^ s.length := Nat.pos_of_ne_zero (by simp)
    have := Nat.mul_pos (Nat.pos_of_ne_zero this) hp
    omega
theorem dec_back : ∀ {s : List UInt8}, s ≠ [] → (s.head? ≠ some 48 ∨ s = [48]) → (∀ c ∈ s, isD c = true) → decDigits (decVal s) = s := by
  intro s
  induction s using snoc_ind with
  | h0 => intro h; exact absurd rfl h
  | hs t c ih =>
    intro _ hh hd
    have hc := hd c (by simp)
    by_cases ht : t = []
    · subst ht
      simp only [List.nil_append]
      have e : decVal [c] = dgt c := by simp [decVal]
      rw [e, decDigits, dif_pos (dgt_lt hc), dgt_back hc]
    · have h48 : t.head? ≠ some 48 := by
        rcases hh with h | h
        · rwa [head_app ht] at h
        · exfalso
          have q1 := congrArg List.length h
          have q2 := List.length_pos_iff.2 ht
          rw [List.length_append] at q1
          simp only [List.length_singleton] at q1
          omega
      have hdt : ∀ x ∈ t, isD x = true := fun x hx => hd x (by simp [hx])
      have hpos := decVal_pos ht h48 hdt
      have hlt := dgt_lt hc
      rw [decVal_snoc, decDigits, dif_neg (by omega)]
      rw [show (decVal t * 10 + dgt c) / 10 = decVal t by omega, show (decVal t * 10 + dgt c) % 10 = dgt c by omega, dgt_back hc, ih ht (.inl h48) hdt]

/-! digits with zeros ahead -/
def pad : Nat → Nat → List UInt8
  | 0, _ => []
  | k + 1, n => pad k (n / 10) ++ [UInt8.ofNat (48 + n % 10)]
theorem pad_len : ∀ k n, (pad k n).length = k
  | 0, _ => rfl
  | k + 1, n => by simp [pad, pad_len k]
theorem pad_front : ∀ k n, pad (k + 1) n = UInt8.ofNat (48 + n / 10 ^ k % 10) :: pad k n
  | 0, n => by simp [pad]
  | k + 1, n => by
    have ih := pad_front k (n / 10)
    have e : pad (k + 1 + 1) n = pad (k + 1) (n / 10) ++ [UInt8.ofNat (48 + n % 10)] := rfl
    rw [e, ih]
    have e2 : n / 10 / 10 ^ k = n / 10 ^ (k + 1) := by rw [Nat.div_div_eq_div_mul, Nat.pow_succ, Nat.mul_comm]
    rw [e2]
    rfl
theorem pad_isD : ∀ k n, ∀ c ∈ pad k n, isD c = true
  | 0, _, c, h => by simp [pad] at h
  | k + 1, n, c, h => by
    simp only [pad, List.mem_append, List.mem_singleton] at h
    rcases h with h | rfl
    · exact pad_isD k _ c h
    · exact isD_ofNat (by omega)
theorem pad_val : ∀ k n, n < 10 ^ k → decVal (pad k n) = n
  | 0, n, h => by simp at h; subst h; rfl
  | k + 1, n, h => by
    simp only [pad]
    rw [decVal_snoc, pad_val k (n / 10) (by rw [Nat.div_lt_iff_lt_mul (by omega)]; rw [Nat.pow_succ] at h; exact h), ofNat_dgt (by omega)]
    omega
/-- as many digits as there are -/
theorem pad_dec : ∀ {k n : Nat}, 10 ^ k ≤ n → n < 10 ^ (k + 1) → pad (k + 1) n = decDigits n
  | 0, n, h1, h2 => by
    rw [decDigits, dif_pos (by simpa using h2)]
    have : n % 10 = n := Nat.mod_eq_of_lt (by simpa using h2)
    simp [pad, this]
  | k + 1, n, h1, h2 => by
    have hp : 1 ≤ 10 ^ k := Nat.one_le_pow _ _ (by decide)
    rw [Nat.pow_succ] at h1
    rw [decDigits, dif_neg (by omega)]
    have e : pad (k + 1 + 1) n = pad (k + 1) (n / 10) ++ [UInt8.ofNat (48 + n % 10)] := rfl
    rw [e, pad_dec (k := k) (n := n / 10) (by rw [Nat.le_div_iff_mul_le (by omega)]; exact h1) (by rw [Nat.div_lt_iff_lt_mul (by omega)]; rw [Nat.pow_succ] at h2; exact h2)]
/-- the digits of a number in two parts -/
theorem dec_parts : ∀ (k q r : Nat), q ≠ 0 → r < 10 ^ k → decDigits (q * 10 ^ k + r) = decDigits q ++ pad k r
  | 0, q, r, _, h => by simp at h; subst h; simp [pad]
  | k + 1, q, r, hq, h => by
    have hp : 1 ≤ 10 ^ k := Nat.one_le_pow _ _ (by decide)
    have hm : q * 10 ^ (k + 1) = q * 10 ^ k * 10 := by rw [Nat.pow_succ, Nat.mul_assoc]
    have h1 : 1 * 1 ≤ q * 10 ^ k := Nat.mul_le_mul (by omega) hp
    rw [decDigits, dif_neg (by omega)]
    have e1 : (q * 10 ^ (k + 1) + r) / 10 = q * 10 ^ k + r / 10 := by omega
    have e2 : (q * 10 ^ (k + 1) + r) % 10 = r % 10 := by omega
    rw [e1, e2, dec_parts k q (r / 10) hq (by rw [Nat.div_lt_iff_lt_mul (by omega)]; rw [Nat.pow_succ] at h; exact h)]
    simp [pad]

/-! numbers as strings -/
def body (a : List UInt8) : List UInt8 := if a.head? = some 45 then a.tail else a
def numOk (a : List UInt8) : Bool := decide (body a ≠ []) && decide ((body a).length ≤ 400) && !(decide ((body a).head? = some 48) && decide (a ≠ [48])) && (body a).all isD
def numV (a : List UInt8) : Int := if a.head? = some 45 then -(decVal (body a) : Int) else decVal (body a)
/-- how many digits a number has -/
def dlen (n : Int) : Nat := (decDigits n.natAbs).length
theorem itoa_num {a : List UInt8} (h : numOk a = true) : itoa (numV a) = a := by
  simp only [numOk, Bool.and_eq_true, decide_eq_true_eq, List.all_eq_true, Bool.not_eq_true', Bool.and_eq_false_iff, decide_eq_false_iff_not] at h
  obtain ⟨⟨⟨h1, h2⟩, h3⟩, h4⟩ := h
  unfold numV itoa
  by_cases hm : a.head? = some 45
  · have hb : body a = a.tail := by simp [body, hm]
    have ha : a = 45 :: a.tail := by
      cases a with
      | nil => simp at hm
      | cons c r => simp at hm; subst hm; rfl
    have h48 : (body a).head? ≠ some 48 := by
      rcases h3 with h | h
      · exact h
      · exfalso; simp only [Decidable.not_not] at h; rw [h] at hm; simp at hm
    have hpos := decVal_pos h1 h48 h4
    rw [if_pos hm, if_pos (by omega)]
    have e : (-(decVal (body a) : Int)).natAbs = decVal (body a) := by omega
    rw [e, dec_back h1 (.inl h48) h4, hb]
    exact ha.symm
  · have hb : body a = a := by simp [body, hm]
    rw [if_neg hm, if_neg (by omega), Int.toNat_natCast]
    rw [hb] at h1 h3 h4 ⊢
    refine dec_back h1 ?_ h4
    rcases h3 with h | h
    · exact .inl h
    · exact .inr (by simpa using h)
theorem not_minus {u : Nat} : (decDigits u).head? ≠ some 45 := by
  intro h
  have hd := decDigits_isD u 45 (by
    cases hl : decDigits u with
    | nil => rw [hl] at h; simp at h
    | cons c r => rw [hl] at h; simp at h; subst h; simp)
  revert hd; decide
theorem body_itoa (n : Int) : body (itoa n) = decDigits n.natAbs := by
  unfold itoa
  split
  · simp [body]
  · rename_i h
    have e : n.toNat = n.natAbs := by omega
    rw [e]
    simp [body, not_minus]
theorem numV_itoa (n : Int) : numV (itoa n) = n := by
  have hb := body_itoa n
  unfold numV
  rw [hb, dec_dec]
  unfold itoa
  split
  · rw [if_pos (by simp)]; omega
  · rw [if_neg not_minus]; omega
theorem numOk_itoa {n : Int} : numOk (itoa n) = decide (dlen n ≤ 400) := by
  have hb := body_itoa n
  have hne := decDigits_ne n.natAbs
  have hD := decDigits_isD n.natAbs
  unfold numOk dlen
  rw [hb]
  have h3 : (decide ((decDigits n.natAbs).head? = some 48) && decide (itoa n ≠ [48])) = false := by
    by_cases h0 : n = 0
    · subst h0
      have : itoa 0 = [48] := by unfold itoa; rw [if_neg (by omega)]; simp [decDigits]
      simp [this]
    · simp [decDigits_head n.natAbs (by omega)]
  rw [h3]
  have h4 : (decDigits n.natAbs).all isD = true := List.all_eq_true.2 hD
  simp [hne, h4]
theorem num_dlen {a : List UInt8} (h : numOk a = true) : dlen (numV a) ≤ 400 := by
  have := numOk_itoa (n := numV a)
  rw [itoa_num h, h] at this
  simpa using this.symm
theorem dlen_dg {n : Int} (h : n ≠ 0) : dlen n = (dg 10 n.natAbs).length := by
  rw [dg_nDigits (by omega)]
  exact decDigits_length _
end Go.Wh
