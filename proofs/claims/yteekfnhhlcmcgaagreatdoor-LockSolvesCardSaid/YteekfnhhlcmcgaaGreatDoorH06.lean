/- Part of a proof: see the last text. -/
import Derived.Test.YteekfnhhlcmcgaaGreatDoorH05
import Derived.Test.YteekfnhhlcmcgaaGreatDoorH00
set_option linter.unusedVariables false
set_option linter.unusedSimpArgs false
namespace Go.Proofs.YteekfnhhlcmcgaaGreatDoor
open Go.Eng Go.Wh Go.Ver
set_option maxRecDepth 20000
attribute [local irreducible] AG CallA CallT AWp PCall ACall AgC
theorem JW (x y : Int) : PCall Tryz.prog 217 [.sl 1 [[dI x], [dI y]]] fun r => r = dI (if x ≠ 0 then x else y) := by 
 refine qw Tryz.func217 rfl rfl Tryz.ntmps217 (rs := [.tmp 2]) (tys := [3]) rfl rfl (by simp) ?_
 (refine qc fun Y Yh=>?_;simp[go_sem];apply Yh;clear Yh Y;apply Xi)
 (refine qc fun Y Yh=>?_;simp[go_sem];apply Yh;clear Yh Y;apply Xi)
 refine qf fun K1 hK1 => ?_
 (refine qc fun Y Yh=>?_;simp[go_sem];apply Yh;clear Yh Y;apply Xi)
 refine qj ?_
 refine qx (σ := Nat) (fun i => ⟨[(3, dI 0), (6, .sl 1 [[dI x], [dI y]]), (7, dI 2), (8, dI i)], []⟩) (fun i => i ≤ 2 ∧ (0 < i → x = 0) ∧ (1 < i → y = 0)) (fun i => 2 - i) 0 ?_ ?_ ?_
 ·(refine ql ?_ ?_ <;> simp[go_sem])
 ·exact ⟨by omega, fun h => by omega, fun h => by omega⟩
 rintro i ⟨hi, h1, h2⟩
 (refine qc fun Y Yh=>?_;simp[go_sem];apply Yh;clear Yh Y;apply Xi)
 refine qf fun K2 hK2 => ?_
 (refine qg fun T F hT hF=>?_;simp[go_sem];refine BR.intro (fun h3=>hT ?_) (fun h3=>hF ?_);all_goals clear hT hF T F;try simp at h3) 
 ·refine qh ?_
  refine hK2 _ ?_; clear hK2
  refine qf fun K4 hK4 => ?_
  refine qj ?_
  obtain ⟨z, hz, hzz⟩ : ∃ z, ([[dI x], [dI y]] : List (List D))[i]? = some [dI z] ∧ ((i = 0 ∧ z = x) ∨ (i = 1 ∧ z = y)) := by
   match i, h3 with
   | 0, _ => exact ⟨x, rfl, .inl ⟨rfl, rfl⟩⟩
   | 1, _ => exact ⟨y, rfl, .inr ⟨rfl, rfl⟩⟩
   | n + 2, h => exact absurd h (by omega)
  (refine qc fun Y Yh=>?_;simp[go_sem, hz];apply Yh;clear Yh Y;apply Xi)
  (refine qc fun Y Yh=>?_;simp[go_sem];apply Yh;clear Yh Y;apply Xi)
  (refine qg fun T F hT hF=>?_;simp[go_sem];refine BR.intro (fun h5=>hT ?_) (fun h5=>hF ?_);all_goals clear hT hF T F;try simp at h5) 
  ·(refine qc fun Y Yh=>?_;simp[go_sem];apply Yh;clear Yh Y;apply Xi)
   (refine qi ?_;simp[go_sem])
   rcases hzz with ⟨rfl, rfl⟩ | ⟨rfl, rfl⟩
   ·rw [if_neg h5]
   ·rw [if_pos (h1 (by omega))]
  ·refine qh ?_
   refine hK4 _ ?_; clear hK4
   (refine qB fun Y Yh=>?_;simp[go_sem];((repeat' (first|apply And.intro|(apply Yh;clear Yh Y)));all_goals first|apply Xi|omega))
   refine ⟨i + 1, ?_, ?_, by omega⟩
   ·(refine ql ?_ ?_ <;> simp[go_sem])
   ·rcases hzz with ⟨rfl, rfl⟩ | ⟨rfl, rfl⟩
    ·exact ⟨by omega, fun _ => h5, fun h => by omega⟩
    ·exact ⟨by omega, fun _ => h1 (by omega), fun _ => h5⟩
 ·refine qp ?_
  simp only [go_sem]
  refine hK1 _ ?_; clear hK1
  (refine qc fun Y Yh=>?_;simp[go_sem];apply Yh;clear Yh Y;apply Xi)
  (refine qi ?_;simp[go_sem])
  rw [if_pos (h1 (by omega)), h2 (by omega)]
theorem cmpN_drop {a b : List Seg} {n i : Nat} (h : cmpN (n - i) (a.drop i) (b.drop i) = cmpV a b) (hi : i < n) :
  (seg2 (atV a i) (atV b i) ≠ 0 → seg2 (atV a i) (atV b i) = cmpV a b) ∧ (seg2 (atV a i) (atV b i) = 0 → cmpN (n - (i + 1)) (a.drop (i + 1)) (b.drop (i + 1)) = cmpV a b) := by
 obtain ⟨k, hk⟩ : ∃ k, n - i = k + 1 := ⟨n - i - 1, by omega⟩
 have hk' : n - (i + 1) = k := by omega
 rw [hk] at h
 rw [hk']
 unfold cmpN at h
 have e1 : ∀ l : List Seg, (l.drop i).headD z0s = atV l i := by
  intro l; unfold atV; rw [List.headD_eq_head?_getD, List.head?_drop]
 rw [e1, e1, List.tail_drop, List.tail_drop] at h
 refine ⟨fun q => ?_, fun q => ?_⟩
 ·rw [if_pos q] at h; exact h
 ·rw [if_neg (by simpa using q)] at h; exact h
theorem jI (a b : List Seg) (ha : a.length ≤ 1000000) (hb : b.length ≤ 1000000) : PCall Tryz.prog 184 [dGs a, dGs b] fun r => r = dI (cmpV a b) := by 
 refine qw Tryz.func184 rfl rfl Tryz.ntmps184 (rs := [.tmp 4]) (tys := [3]) rfl rfl (by simp) ?_
 have hmx : (if a.length < b.length then (b.length : Int) else (a.length : Int)) = ((max a.length b.length : Nat) : Int) := by split <;> omega
 have hN : cmpN (max a.length b.length - 0) (a.drop 0) (b.drop 0) = cmpV a b := rfl
 have hna : ∀ i, ¬ i < a.length → atV a i = z0s := fun i h => at_past (by omega)
 have hnb : ∀ i, ¬ i < b.length → atV b i = z0s := fun i h => at_past (by omega)
 have hstep := fun i => @cmpN_drop a b (max a.length b.length) i
 have hle1 : a.length ≤ max a.length b.length := by omega
 have hle2 : b.length ≤ max a.length b.length := by omega
 have hle3 : max a.length b.length ≤ 1000000 := by omega
 have hz : ∀ i, max a.length b.length ≤ i → cmpN (max a.length b.length - i) (a.drop i) (b.drop i) = 0 := fun i h => by
  rw [Nat.sub_eq_zero_of_le h]; rfl
 generalize cmpV a b = res at *
 (refine qc fun Y Yh=>?_;simp[go_sem];apply Yh;clear Yh Y;apply Xi)
 refine qf fun K1 hK1 => ?_
 (refine qc fun Y Yh=>?_;simp[go_sem, hmx];apply Yh;clear Yh Y;apply Xi)
 generalize max a.length b.length = n at *
 refine qj ?_
 refine qx (σ := Nat) (fun i => ⟨[(0, dGs a), (1, dGs b), (13, dI n), (14, dI i)], []⟩) (fun i => i ≤ n ∧ cmpN (n - i) (a.drop i) (b.drop i) = res) (fun i => n - i) 0 ?_ ?_ ?_
 ·(refine ql ?_ ?_ <;> simp[go_sem])
 ·exact ⟨by omega, hN⟩
 rintro i ⟨hi, hc⟩
 (refine qc fun Y Yh=>?_;simp[go_sem];apply Yh;clear Yh Y;apply Xi)
 refine qf fun K2 hK2 => ?_
 (refine qg fun T F hT hF=>?_;simp[go_sem];refine BR.intro (fun h3=>hT ?_) (fun h3=>hF ?_);all_goals clear hT hF T F;try simp at h3) 
 ·refine qh ?_
  refine hK2 _ ?_; clear hK2
  have hst := hstep i hc (by omega)
  refine qf fun K4 hK4 => ?_
  refine qj ?_
  (refine qc fun Y Yh=>?_;simp[go_sem];apply Yh;clear Yh Y;apply Xi)
  (refine qc fun Y Yh=>?_;simp[go_sem];intro _;intro _;apply Yh;clear Yh Y;apply Xi)
  rename_i g6 g7
  refine qf fun K5 hK5 => ?_
  have tl5 : ∀ S', Cov S' ⟨[(0, dGs a), (1, dGs b), (5, dI i), (6, .ptr 6 g6 0), (7, .ptr 7 g7 0), (13, dI n), (14, dI i)], [(6, g6, .box (cG (atV a i))), (7, g7, .box [dS [], dI 0])]⟩ → K5 S' := fun S' hS => by
   refine hK5 _ ?_; clear hK5
   refine qN hS ?_; clear hS
   refine qf fun K6 hK6 => ?_
   have tl6 : ∀ S', Cov S' ⟨[(0, dGs a), (1, dGs b), (6, .ptr 6 g6 0), (7, .ptr 7 g7 0), (13, dI n), (14, dI i)], [(6, g6, .box (cG (atV a i))), (7, g7, .box (cG (atV b i)))]⟩ → K6 S' := fun S' hS => by
    refine hK6 _ ?_
    refine qN hS ?_; clear hS
    generalize atV a i = x at *
    generalize atV b i = y at *
    unfold seg2 at hst
    refine qf fun K7 hK7 => ?_
    refine qj ?_
    (refine qc fun Y Yh=>?_;simp[go_sem];((repeat' (first|(refine qH ?_;simp[go_sem])|(apply Yh;clear Yh Y)));all_goals apply Xi))
    (refine qg fun T F hT hF=>?_;simp[go_sem];refine BR.intro (fun h8=>hT ?_) (fun h8=>hF ?_);all_goals clear hT hF T F;try simp at h8) 
    ·(refine qc fun Y Yh=>?_;simp[go_sem];apply Yh;clear Yh Y;apply Xi)
     (refine qi ?_;simp[go_sem])
     rw [if_pos h8] at hst
     exact hst.1 (by omega)
    ·rw [if_neg (fun q => h8 q.1 q.2)] at hst
     (refine qc fun Y Yh=>?_;simp[go_sem];((repeat' (first|(refine qH ?_;simp[go_sem])|(apply Yh;clear Yh Y)));all_goals apply Xi))
     (refine qg fun T F hT hF=>?_;simp[go_sem];refine BR.intro (fun h9=>hT ?_) (fun h9=>hF ?_);all_goals clear hT hF T F;try simp at h9) 
     ·(refine qc fun Y Yh=>?_;simp[go_sem];apply Yh;clear Yh Y;apply Xi)
      (refine qi ?_;simp[go_sem])
      rw [if_pos h9] at hst
      exact hst.1 (by omega)
     ·rw [if_neg (fun q => q.2 (h9 q.1))] at hst
      refine qh ?_
      refine hK7 _ ?_; clear hK7
      ((refine qE (.qs [0, 2, 5, 7, 1, 3, 6, 8] (.kp 4 (.kp 9 (.kp 10 (.kp 11 (.qs [12] (.nil))))))) (by kernel_rfl) ?_ ?_ ?_ ?_);kernel_rfl;exact (by decide +kernel);kernel_rfl;intro Y Yh;((repeat' (first|(refine qo fun Y Yh=>?_;simp[go_sem])|(refine qC fun Y Yh=>?_;simp[go_sem])|(apply Yh;clear Yh Y)))))
      ((try refine Xj ?_);refine qm (.inl ⟨rfl,rfl⟩) (by simp[go_sem]) ?_;intro args ha;simp[go_sem] at ha;subst ha;refine ⟨_, (ZW x.1 y.1), ?_⟩;rintro _ rfl;simp[go_sem];((repeat' (first|(refine qC fun Y Yh=>?_;simp[go_sem])|(apply Yh;clear Yh Y)))))
      ((try refine Xj ?_);refine qm (.inl ⟨rfl,rfl⟩) (by simp[go_sem]) ?_;intro args ha;simp[go_sem] at ha;subst ha;refine ⟨_, (Jc x.2 y.2), ?_⟩;rintro _ rfl;simp[go_sem];((repeat' (first|(refine qC fun Y Yh=>?_;simp[go_sem])|intro _|(apply Yh;clear Yh Y)))))
      ((try refine Xj ?_);refine jk (.inl ⟨rfl,rfl⟩) ?_;intro args ha;simp[go_sem] at ha;subst ha;refine ⟨_, (JW (Lib.compareBytes x.1 y.1) (Lib.compareInt x.2 y.2)), ?_⟩;rintro _ rfl;refine ⟨rfl, ?_⟩;simp[go_sem];((repeat' (first|refine qy ?_|(refine qo fun Y Yh=>?_;simp[go_sem])|(apply Yh;clear Yh Y)));all_goals apply Xi))
      (refine qc fun Y Yh=>?_;simp[go_sem];apply Yh;clear Yh Y;apply Xi)
      generalize Lib.compareBytes x.fst y.fst = u at *
      generalize Lib.compareInt x.snd y.snd = v at *
      (refine qg fun T F hT hF=>?_;simp[go_sem];refine BR.intro (fun h10=>hT ?_) (fun h10=>hF ?_);all_goals clear hT hF T F;try simp at h10) 
      ·(refine qc fun Y Yh=>?_;simp[go_sem];apply Yh;clear Yh Y;apply Xi)
       (refine qi ?_;simp[go_sem])
       simpa using hst.1 (by simpa using h10)
      ·refine qh ?_
       refine hK4 _ ?_; clear hK4
       (refine qB fun Y Yh=>?_;simp[go_sem];((repeat' (first|apply And.intro|(apply Yh;clear Yh Y)));all_goals first|apply Xi|omega))
       refine ⟨i + 1, ?_, ⟨by omega, hst.2 (by simpa using h10)⟩, by omega⟩
       (refine ql ?_ ?_ <;> simp[go_sem])
   (refine qc fun Y Yh=>?_;simp[go_sem];apply Yh;clear Yh Y;apply Xi)
   (refine qg fun T F hT hF=>?_;simp[go_sem];refine BR.intro (fun h11=>hT ?_) (fun h11=>hF ?_);all_goals clear hT hF T F;try simp at h11) 
   ·obtain ⟨y, hy⟩ : ∃ y, b[i]? = some y := ⟨_, List.getElem?_eq_getElem (by omega)⟩
    have ey : atV b i = y := by unfold atV; rw [hy]; rfl
    (refine qB fun Y Yh=>?_;simp[go_sem, hy];apply Yh;clear Yh Y;apply Xi)
    refine tl6 _ ?_
    rw [ey]
    (refine ql ?_ ?_ <;> simp[go_sem])
   ·refine qh ?_
    refine tl6 _ ?_
    rw [hnb i (by omega)]
    (refine ql ?_ ?_ <;> simp[go_sem])
  clear hK5
  (refine qc fun Y Yh=>?_;simp[go_sem];apply Yh;clear Yh Y;apply Xi)
  (refine qg fun T F hT hF=>?_;simp[go_sem];refine BR.intro (fun h12=>hT ?_) (fun h12=>hF ?_);all_goals clear hT hF T F;try simp at h12) 
  ·obtain ⟨x, hx⟩ : ∃ x, a[i]? = some x := ⟨_, List.getElem?_eq_getElem (by omega)⟩
   have ex : atV a i = x := by unfold atV; rw [hx]; rfl
   (refine qB fun Y Yh=>?_;simp[go_sem, hx];apply Yh;clear Yh Y;apply Xi)
   refine tl5 _ ?_
   rw [ex]
   (refine ql ?_ ?_ <;> simp[go_sem])
  ·refine qh ?_
   refine tl5 _ ?_
   rw [hna i (by omega)]
   (refine ql ?_ ?_ <;> simp[go_sem])
 ·refine qp ?_
  simp only [go_sem]
  refine hK1 _ ?_; clear hK1
  (refine qc fun Y Yh=>?_;simp[go_sem];apply Yh;clear Yh Y;apply Xi)
  (refine qi ?_;simp[go_sem])
  rw [← hc, hz i (by omega)]
def fIx {α : Type} (p : α → Bool) (l : List α) : Int := if l.any p = true then (l.findIdx p : Int) else -1
theorem take_anyG {α : Type} {p : α → Bool} {l : List α} {i : Nat} {x : α} (h : (l.take i).any p = false) (hx : l[i]? = some x) (hp : ¬ p x = true) : (l.take (i + 1)).any p = false := by
 rw [List.take_add_one, hx, List.any_append, h]; simpa using hp
theorem fIx_at {α : Type} {p : α → Bool} {l : List α} {i : Nat} {x : α} (h : (l.take i).any p = false) (hx : l[i]? = some x) (hp : p x = true) : fIx p l = i := by
 have hi : i < l.length := (List.getElem?_eq_some_iff.1 hx).1
 have ha : l.any p = true := List.any_eq_true.2 ⟨x, List.mem_of_getElem? hx, hp⟩
 have hf : l.findIdx p = i := by
  rw [List.findIdx_eq hi]
  refine ⟨by rw [(List.getElem?_eq_some_iff.1 hx).2]; exact hp, fun j hj => ?_⟩
  have hm : l[j] ∈ l.take i := List.mem_of_getElem? (i := j) (by rw [List.getElem?_take]; simp [hj])
  simpa using List.any_eq_false.1 h _ hm
 unfold fIx; rw [if_pos ha, hf]
theorem fIx_none {α : Type} {p : α → Bool} {l : List α} (h : l.any p = false) : fIx p l = -1 := by unfold fIx; rw [h]; rfl
theorem fIx_any {α : Type} (p : α → Bool) (l : List α) : decide (0 ≤ fIx p l) = l.any p := by
 unfold fIx; cases l.any p <;> simp
theorem QV (l : List Seg) (f : Nat) (p : Seg → Bool) (hp : ∀ x ∈ l, PCall Tryz.prog f [dG x] fun r => r = dB (p x)) (hl : l.length ≤ 1000000) : PCall Tryz.prog 281 [dGs l, .v (.func (.func f) #[] #[])] fun r => r = dI (fIx p l) := by 
 refine qw Tryz.func281 rfl rfl Tryz.ntmps281 (rs := [.tmp 4]) (tys := [3]) rfl rfl (by simp) ?_
 (refine qc fun Y Yh=>?_;simp[go_sem];apply Yh;clear Yh Y;apply Xi)
 refine qf fun K1 hK1 => ?_
 (refine qc fun Y Yh=>?_;simp[go_sem];apply Yh;clear Yh Y;apply Xi)
 refine qj ?_
 refine qx (σ := Nat) (fun i => ⟨[(0, dGs l), (1, .v (.func (.func f) #[] #[])), (7, dI l.length), (8, dI i)], []⟩) (fun i => i ≤ l.length ∧ (l.take i).any p = false) (fun i => l.length - i) 0 (by (refine ql ?_ ?_ <;> simp[go_sem])) (by simp) ?_
 rintro i ⟨hi, hany⟩
 (refine qc fun Y Yh=>?_;simp[go_sem];apply Yh;clear Yh Y;apply Xi)
 refine qf fun K2 hK2 => ?_
 (refine qg fun T F hT hF=>?_;simp[go_sem];refine BR.intro (fun h3=>hT ?_) (fun h3=>hF ?_);all_goals clear hT hF T F;try simp at h3) 
 ·refine qh ?_
  refine hK2 _ ?_; clear hK2
  obtain ⟨x, hx⟩ : ∃ x, l[i]? = some x := ⟨_, List.getElem?_eq_getElem (by omega)⟩
  refine qf fun K4 hK4 => ?_
  refine qj ?_
  (refine qc fun Y Yh=>?_;simp[go_sem];apply Yh;clear Yh Y;apply Xi)
  (refine qc fun Y Yh=>?_;simp[go_sem, hx])
  ((try refine Xj ?_);refine qm (by first|exact .inl ⟨rfl,rfl⟩|exact .inr rfl) (by simp[go_sem]) ?_;intro args ha;simp[go_sem] at ha;subst ha;refine ⟨_, (hp x (List.mem_of_getElem? hx)), ?_⟩;rintro _ rfl;simp[go_sem];apply Yh;clear Yh Y;apply Xi)
  (refine qg fun T F hT hF=>?_;simp[go_sem];refine BR.intro (fun h5=>hT ?_) (fun h5=>hF ?_);all_goals clear hT hF T F;try simp at h5) 
  ·(refine qc fun Y Yh=>?_;simp[go_sem];apply Yh;clear Yh Y;apply Xi)
   (refine qi ?_;simp[go_sem])
   rw [fIx_at hany hx h5]
  ·refine qh ?_
   refine hK4 _ ?_; clear hK4
   (refine qB fun Y Yh=>?_;simp[go_sem];((repeat' (first|apply And.intro|(apply Yh;clear Yh Y)));all_goals first|apply Xi|omega))
   refine ⟨i + 1, ?_, ⟨by omega, take_anyG hany hx (by simp [h5])⟩, by omega⟩
   (refine ql ?_ ?_ <;> simp[go_sem])
 ·refine qp ?_
  simp only [go_sem]
  refine hK1 _ ?_; clear hK1
  (refine qc fun Y Yh=>?_;simp[go_sem];apply Yh;clear Yh Y;apply Xi)
  (refine qi ?_;simp[go_sem])
  have : i = l.length := by omega
  subst this
  rw [List.take_length] at hany
  rw [fIx_none hany]
theorem Qm (x : Seg) : PCall Tryz.prog 282 [dG x] fun r => r = dB (decide (x.1 ≠ [])) := by
 refine qw Tryz.func282 rfl rfl Tryz.ntmps282 (rs := [.tmp 2]) (tys := [4]) rfl rfl (by simp) ?_
 (refine qc fun Y Yh=>?_;simp[go_sem];intro _;apply Yh;clear Yh Y;apply Xi)
 (refine qc fun Y Yh=>?_;simp[go_sem];apply Yh;clear Yh Y;apply Xi)
 (refine qi ?_;simp[go_sem])
 cases x.fst <;> simp
theorem words_ix (l : List Seg) : (0 ≤ fIx (fun s => decide (s.1 ≠ [])) l → fIx (fun s => decide (s.1 ≠ [])) l = wordsV l) ∧ (¬ 0 ≤ fIx (fun s => decide (s.1 ≠ [])) l → wordsV l = l.length) := by
 unfold fIx wordsV
 refine ⟨fun h => ?_, fun h => ?_⟩
 ·split at h
  ·rename_i q; rw [if_pos q]
  ·omega
 ·split at h
  ·omega
  ·rename_i q
   rw [List.findIdx_eq_length]
   intro x hx
   have q : l.any (fun s => decide (s.1 ≠ [])) = false := by simpa using q
   simpa using List.any_eq_false.1 q x hx
theorem xk (l : List Seg) (hl : l.length ≤ 1000000) : PCall Tryz.prog 248 [dGs l] fun r => r = dI (wordsV l) := by 
 refine qw Tryz.func248 rfl rfl Tryz.ntmps248 (rs := [.tmp 2]) (tys := [3]) rfl rfl (by simp) ?_
 have I := QV l 282 (fun s => decide (s.1 ≠ [])) (fun x _ => Qm x) hl
 have e := words_ix l
 generalize fIx (fun s : Seg => decide (s.1 ≠ [])) l = k at *
 (refine qc fun Y Yh=>?_;simp[go_sem];apply Yh;clear Yh Y;apply Xi)
 refine qf fun K1 hK1 => ?_
 (refine qc fun Y Yh=>?_;simp[go_sem])
 ((try refine Xj ?_);refine qm (.inl ⟨rfl,rfl⟩) (by simp[go_sem]) ?_;intro args ha;simp[go_sem] at ha;subst ha;refine ⟨_, I, ?_⟩;rintro _ rfl;simp[go_sem];apply Yh;clear Yh Y;apply Xi)
 (refine qc fun Y Yh=>?_;simp[go_sem];apply Yh;clear Yh Y;apply Xi)
 (refine qg fun T F hT hF=>?_;simp[go_sem];refine BR.intro (fun h2=>hT ?_) (fun h2=>hF ?_);all_goals clear hT hF T F;try simp at h2) 
 ·(refine qc fun Y Yh=>?_;simp[go_sem];apply Yh;clear Yh Y;apply Xi)
  (refine qi ?_;simp[go_sem, e.1 h2])
 ·refine qh ?_
  refine hK1 _ ?_; clear hK1
  (refine qc fun Y Yh=>?_;simp[go_sem];apply Yh;clear Yh Y;apply Xi)
  (refine qi ?_;simp[go_sem, e.2 (by omega)])
theorem Zb (l : List Seg) (hl : l.length ≤ 1000000) (h0 : l ≠ []) : ACall Tryz.prog 303 [dGs l] [] [800000] fun ps r => ∃ g, ps = [(g, .row 288 2 (l.map cG))] ∧ r = .own 800000 g := by
 refine zg Tryz.func303 rfl rfl Tryz.ntmps303 (rs := [.tmp 2]) (tys := [240]) rfl rfl (by simp) (by simp) ?_
 (refine qc fun Y Yh=>?_;simp[go_sem];apply Yh;clear Yh Y;apply Xi)
 refine qf fun K1 hK1 => ?_
 (refine qc fun Y Yh=>?_;simp[go_sem];((repeat' (first|intro _|apply And.intro|(apply Yh;clear Yh Y)));all_goals apply Xi))
 all_goals first | (rename_i hn; exact absurd hn h0) | skip
 refine qg fun T F hT hF => ?_
 simp [go_sem]
 refine hF ?_
 refine qh ?_
 refine hK1 _ ?_; clear hK1
 (refine qc fun Y Yh=>?_;simp[go_sem];((repeat' (first|intro _|apply And.intro|(apply Yh;clear Yh Y)));all_goals first|apply Xi|omega))
 refine zk 2 800000 rfl rfl (by decide) fun g => ?_
 simp only [go_sem]
 refine qi ?_
 simp [go_sem]
theorem bump_last {l : List Seg} (h : 1 ≤ wordsV l) : ∃ x, (l.take (bumpN l))[(l.take (bumpN l)).length - 1]? = some x ∧ (l.take (bumpN l)).length = bumpN l ∧ 1 ≤ bumpN l ∧ x ∈ l ∧ bumpV l = (l.take (bumpN l)).set ((l.take (bumpN l)).length - 1) (x.1, x.2 + 1) := by
 have h1 : 1 ≤ bumpN l := by unfold bumpN; split <;> omega
 have h2 := bumpN_le l
 have h3 := zF l
 have hlen : (l.take (bumpN l)).length = bumpN l := by simp; omega
 have hx : l[bumpN l - 1]? = some (atV l (bumpN l - 1)) := by
  unfold atV; rw [List.getElem?_eq_getElem (by omega)]; rfl
 have hw : (atV l (bumpN l - 1)).1 = [] := words_before (by omega)
 refine ⟨atV l (bumpN l - 1), ?_, hlen, h1, List.mem_of_getElem? hx, ?_⟩
 ·rw [hlen, List.getElem?_take, if_pos (by omega)]; exact hx
 ·rw [hlen, hw]; rfl
theorem Jl (l : List Seg) (hl : l.length ≤ 1000) (h1 : 1 ≤ wordsV l) (hn : ∀ x ∈ l, 0 ≤ x.2 ∧ x.2 ≤ 1000000000) : PCall Tryz.prog 283 [dGs l] fun r => r = dGs (bumpV l) := by 
 refine qw Tryz.func283 rfl rfl Tryz.ntmps283 (rs := [.tmp 2]) (tys := [240]) rfl rfl (by simp) ?_
 have W := xk l (by omega)
 have hwl := zF l
 have hbl := bumpN_le l
 obtain ⟨x, hx, hml, hm1, hxm, hb⟩ := bump_last h1
 have hxn := hn x hxm
 rw [hb]
 have htk : (l.take (wordsV l)) ≠ [] := by
  intro e
  have := congrArg List.length e
  simp at this
  rcases this with e | e
  ·omega
  ·subst e; simp at hwl; omega
 have hdrop : 1 < wordsV l → (l.take (wordsV l)).take (wordsV l - 1) = l.take (bumpN l) := by
  intro h; unfold bumpN; rw [if_pos h, List.take_take]; congr 1; omega
 have hsame : ¬ 1 < wordsV l → l.take (wordsV l) = l.take (bumpN l) := by
  intro h; unfold bumpN; rw [if_neg h]
 have hlen : (l.take (wordsV l)).length = wordsV l := by simp; omega
 have C := Zb (l.take (wordsV l)) (by omega) htk
 simp only [dGs, List.map_take] at C
 generalize hm : l.take (bumpN l) = m at *
 (refine qc fun Y Yh=>?_;simp[go_sem];apply Yh;clear Yh Y;apply Xi)
 (refine qc fun Y Yh=>?_;simp[go_sem])
 ((try refine Xj ?_);refine qm (.inl ⟨rfl,rfl⟩) (by simp[go_sem]) ?_;intro args ha;simp[go_sem] at ha;subst ha;refine ⟨_, W, ?_⟩;rintro _ rfl;simp[go_sem];((repeat' apply And.intro);all_goals first|omega|skip))
 (refine qR [800000] (.inl ⟨rfl,rfl⟩) (by simp[go_sem]) ?_;intro args ha;simp[go_sem] at ha;subst ha;refine ⟨_, _, C, (by simp[go_sem]), ?_⟩;rintro ps r hps ⟨gw, rfl, rfl⟩;simp[go_sem];apply Yh;clear Yh Y;apply Xi)
 refine qf fun K1 hK1 => ?_
 have tl1 : ∀ S' g, Cov S' ⟨[(0, .own 800000 g)], [(800000, g, .row 288 2 (m.map cG))]⟩ → K1 S' := fun S' g hS => by
  refine hK1 _ ?_
  refine qN hS ?_; clear hS
  have hidx : ((m.length : Int) - 1).toNat = m.length - 1 := by omega
  (refine qc fun Y Yh=>?_;simp[go_sem, hx, hidx];((repeat' (first|apply And.intro|(apply Yh;clear Yh Y)));all_goals first|apply Xi|omega))
  (refine qc fun Y Yh=>?_;simp[go_sem];apply Yh;clear Yh Y;apply Xi)
  (refine qi ?_;simp[go_sem, hx, hidx])
 (refine qc fun Y Yh=>?_;simp[go_sem, hlen];apply Yh;clear Yh Y;apply Xi)
 (refine qg fun T F hT hF=>?_;simp[go_sem];refine BR.intro (fun h2=>hT ?_) (fun h2=>hF ?_);all_goals clear hT hF T F;try simp at h2) 
 ·(refine qB fun Y Yh=>?_;simp[go_sem, hlen];((repeat' (first|intro _|apply And.intro|(apply Yh;clear Yh Y)));all_goals first|apply Xi|omega))
  rename_i g'
  refine tl1 _ g' ?_
  rw [← hdrop (by omega)]
  (refine ql ?_ ?_ <;> simp[go_sem, hlen])
  all_goals omega
 ·refine qh ?_
  refine tl1 _ gw ?_
  rw [← hsame (by omega)]
  (refine ql ?_ ?_ <;> simp[go_sem])
@[go_sem] abbrev cC (c : Cnd) : List D := [dS c.1, dS (textV c.2), dGs c.2]
@[go_sem] abbrev dC (c : Cnd) : D := .agg [dS c.1, dS (textV c.2), dGs c.2]
@[go_sem] abbrev dCs (l : List Cnd) : D := .sl 3 (l.map cC)
theorem jL (r : List UInt8) (hl : r.length ≤ 1000000) : PCall Tryz.prog 207 [dS r] fun x => x = .tup [dCs (condsP r), dB (condsV r).isSome] := by 
 refine qw Tryz.func207 rfl rfl Tryz.ntmps207 (rs := [.tmp 2, .tmp 3]) (tys := [284, 4]) rfl rfl (by simp) ?_
 have S1 := zZ r [44, 32] (by omega) (by simp)
 rw [split_csv] at S1
 have hdl := csv_len 44 32 r
 have hdp := csv_part 44 32 r
 have hdn := csv_ne 44 32 r
 unfold condsP condsV
 (refine qc fun Y Yh=>?_;simp[go_sem];apply Yh;clear Yh Y;apply Xi)
 refine qf fun K1 hK1 => ?_
 (refine qc fun Y Yh=>?_;simp[go_sem];apply Yh;clear Yh Y;apply Xi)
 (refine qg fun T F hT hF=>?_;simp[go_sem];refine BR.intro (fun h2=>hT ?_) (fun h2=>hF ?_);all_goals clear hT hF T F;try simp at h2) 
 ·(refine qc fun Y Yh=>?_;simp[go_sem];apply Yh;clear Yh Y;apply Xi)
  (refine qi ?_;simp[go_sem, h2])
 ·refine qh ?_
  refine hK1 _ ?_; clear hK1
  simp only [h2, if_false]
  generalize hps : csv 44 32 r = ps at *
  (refine qc fun Y Yh=>?_;simp[go_sem];apply Yh;clear Yh Y;apply Xi)
  refine qU 4 4 321 3 rfl fun g4 => ?_
  simp only [go_sem]
  refine qf fun K3 hK3 => ?_
  (refine qc fun Y Yh=>?_;simp[go_sem])
  ((try refine Xj ?_);refine qm (.inl ⟨rfl,rfl⟩) (by simp[go_sem]) ?_;intro args ha;simp[go_sem] at ha;subst ha;refine ⟨_, S1, ?_⟩;rintro _ rfl;simp[go_sem];apply Yh;clear Yh Y;apply Xi)
  refine qj ?_
  refine qx (σ := Nat × List Cnd × Nat) (fun x => ⟨[(4, .own 4 x.2.2), (15, dSs ps), (16, dI ps.length), (17, dI x.1)], [(4, x.2.2, .row 321 3 (x.2.1.map cC))]⟩) (fun x => x.1 ≤ ps.length ∧ x.2.1.length = x.1 ∧ cndsV (ps.take x.1) = some x.2.1) (fun x => ps.length - x.1) (0, [], g4) ?_ ?_ ?_
  ·(refine ql ?_ ?_ <;> simp[go_sem])
  ·exact ⟨by omega, rfl, rfl⟩
  rintro ⟨i, out, g⟩ ⟨hi, ho, hs⟩
  simp only at hi ho hs
  (refine qc fun Y Yh=>?_;simp[go_sem];apply Yh;clear Yh Y;apply Xi)
  refine qf fun K4 hK4 => ?_
  (refine qg fun T F hT hF=>?_;simp[go_sem];refine BR.intro (fun h5=>hT ?_) (fun h5=>hF ?_);all_goals clear hT hF T F;try simp at h5) 
  ·refine qh ?_
   refine hK4 _ ?_; clear hK4
   have hi' : i < ps.length := by omega
   obtain ⟨p, hp⟩ : ∃ p, ps[i]? = some p := ⟨_, List.getElem?_eq_getElem hi'⟩
   have hpm : p ∈ ps := List.mem_of_getElem? hp
   have hpl := hdp p hpm
   have R1 := Z7 p [32] (by omega)
   have hbad := wV hpm
   have hsn := fun (x : Cnd) (h : cndV p = some x) => vO hs h
   obtain ⟨o, v, is, hcut⟩ : ∃ o v is, Lib.cut p [32] = (o, v, is) := ⟨_, _, _, rfl⟩
   rw [hcut] at R1
   simp only at R1
   have hcc := cut_cnd hcut
   have hcl := cut_len hcut
   have R2 := jv v (by omega)
   have hro := @kZ v
   have hrk := @jQ v
   have RC := wH opsV o (by simp [opsV])
   refine qf fun K6 hK6 => ?_
   refine qj ?_
   (refine qc fun Y Yh=>?_;simp[go_sem, hp];apply Yh;clear Yh Y;apply Xi)
   (refine qc fun Y Yh=>?_;simp[go_sem])
   ((try refine Xj ?_);refine qm (.inl ⟨rfl,rfl⟩) (by simp[go_sem]) ?_;intro args ha;simp[go_sem] at ha;subst ha;refine ⟨_, R1, ?_⟩;rintro _ rfl;simp[go_sem];apply Yh;clear Yh Y;apply Xi)
   (refine qc fun Y Yh=>?_;simp[go_sem])
   generalize readP v = q at *
   generalize hsv : readV v = sv at *
   ((try refine Xj ?_);refine qm (.inl ⟨rfl,rfl⟩) (by simp[go_sem]) ?_;intro args ha;simp[go_sem] at ha;subst ha;refine ⟨_, R2, ?_⟩;rintro _ rfl;simp[go_sem];apply Yh;clear Yh Y;apply Xi)
   refine qf fun K7 hK7 => ?_
   cases is with
   | false =>
    simp only [Bool.false_eq_true, false_and, if_false] at hcc
    (refine qc fun Y Yh=>?_;simp[go_sem];((repeat' (first|(refine qG (by simp[go_sem, undef]) (by simp[go_sem]) ?_;simp[go_sem])|intro _|apply And.intro|(apply Yh;clear Yh Y)));all_goals first|apply Xi|omega|assumption|skip))
    (refine qg fun T F hT hF=>?_;simp[go_sem];refine hT ?_;clear hT hF T F)
    (refine qc fun Y Yh=>?_;simp[go_sem];apply Yh;clear Yh Y;apply Xi)
    (refine qi ?_;simp[go_sem, hbad hcc])
   | true =>
    cases sv with
    | none =>
     simp at hcc
     simp only [Option.isSome_none]
     refine qc fun Y Yh => ?_
     simp [go_sem]
     refine qH ?_
     simp [go_sem]
     refine qH ?_
     simp [go_sem]
     iterate 4
      refine qG ?_ ?_ ?_
      ·simp [go_sem, undef]
      ·simp [go_sem]
      simp [go_sem]
     simp [undef]
     apply Yh; clear Yh Y
     refine Xi ?_
     (refine qg fun T F hT hF=>?_;simp[go_sem];refine hT ?_;clear hT hF T F)
     (refine qc fun Y Yh=>?_;simp[go_sem];apply Yh;clear Yh Y;apply Xi)
     (refine qi ?_;simp[go_sem, hbad hcc])
    | some l =>
     obtain rfl := hro rfl
     obtain ⟨hvo, hvt, hvl⟩ := hrk rfl
     simp only [Option.isSome_some]
     (refine qc fun Y Yh=>?_;simp[go_sem];((repeat' (first|(refine qH ?_;simp[go_sem])|intro _))))
     (refine qX (dB (decide (o ∈ opsV))) (.inl ⟨rfl,rfl⟩) ?_ rfl ?_;(intro hc args ha;simp[go_sem] at ha;subst ha;exact RC);simp[go_sem];refine qH ?_;simp[go_sem];apply Yh;clear Yh Y;apply Xi)
     by_cases hop : o ∈ opsV
     ·simp only [hop, true_and, if_true, Option.map_some] at hcc
      (refine qg fun T F hT hF=>?_;simp[go_sem, hop];refine hF ?_;clear hT hF T F)
      refine qh ?_
      refine hK7 _ ?_; clear hK7
      (refine qB fun Y Yh=>?_;simp[go_sem];((repeat' (first|intro _|apply And.intro|(apply Yh;clear Yh Y)));all_goals first|apply Xi|omega))
      refine hK6 _ ?_; clear hK6
      (refine qB fun Y Yh=>?_;simp[go_sem];((repeat' (first|apply And.intro|(apply Yh;clear Yh Y)));all_goals first|apply Xi|omega))
      rename_i g28 g'
      have e : ps.take (i + 1) = ps.take i ++ [p] := by rw [List.take_add_one, hp]; rfl
      refine ⟨(i + 1, out ++ [(o, q)], g'), ?_, ⟨by simp only; omega, by simp [ho], ?_⟩, by simp only; omega⟩
      ·(refine ql ?_ ?_ <;> simp[go_sem, hvt])
      ·simp only [e]
       exact hsn _ hcc
     ·simp only [hop, and_false, if_false] at hcc
      (refine qg fun T F hT hF=>?_;simp[go_sem, hop];refine hT ?_;clear hT hF T F)
      (refine qc fun Y Yh=>?_;simp[go_sem];apply Yh;clear Yh Y;apply Xi)
      (refine qi ?_;simp[go_sem, hbad hcc])
  ·refine qp ?_
   simp only [go_sem]
   refine hK3 _ ?_; clear hK3
   have hie : i = ps.length := by omega
   subst hie
   rw [List.take_length] at hs
   (refine qc fun Y Yh=>?_;simp[go_sem];apply Yh;clear Yh Y;apply Xi)
   (refine qi ?_;simp[go_sem, hs])
   split
   ·rename_i hq
    simp; omega
   ·rename_i hq
    simp; omega
theorem VOk.num {l : List Seg} (h : VOk l) : ∀ x ∈ l, 0 ≤ x.2 ∧ x.2 ≤ 1000000000 := fun x hx => by
 rcases h.2.2 x hx with ⟨_, _, _, q⟩ | ⟨_, q⟩ <;> omega
theorem Ju (c : Cnd) (l : List Seg) (hc : VOk c.2) (hl : l.length ≤ 1000) : PCall Tryz.prog 249 [dC c, dGs l] fun r => r = dB (metV l c) := by 
 refine qw Tryz.func249 rfl rfl Tryz.ntmps249 (rs := [.tmp 4]) (tys := [4]) rfl rfl (by simp) ?_
 have hcl := hc.1
 have C1 := jI l c.2 (by omega) (by omega)
 have B1 := Jl c.2 (by omega) (xm hc) (VOk.num hc)
 have hbl : (bumpV c.2).length ≤ 1000 := by rw [jC]; have := bumpN_le c.2; have := zF c.2; omega
 have C2 := jI l (bumpV c.2) (by omega) (by omega)
 unfold metV
 generalize cmpV l c.2 = n at *
 generalize cmpV l (bumpV c.2) = k at *
 generalize bumpV c.2 = bu at *
 (refine qc fun Y Yh=>?_;simp[go_sem];intro _;apply Yh;clear Yh Y;apply Xi)
 (refine qc fun Y Yh=>?_;simp[go_sem])
 ((try refine Xj ?_);refine qm (.inl ⟨rfl,rfl⟩) (by simp[go_sem]) ?_;intro args ha;simp[go_sem] at ha;subst ha;refine ⟨_, C1, ?_⟩;rintro _ rfl;simp[go_sem];apply Yh;clear Yh Y;apply Xi)
 refine qf fun K1 hK1 => ?_
 (refine qc fun Y Yh=>?_;simp[go_sem];apply Yh;clear Yh Y;apply Xi)
 refine qj ?_
 (refine qc fun Y Yh=>?_;simp[go_sem];apply Yh;clear Yh Y;apply Xi)
 (refine qg fun T F hT hF=>?_;simp[go_sem];refine BR.intro (fun h2=>hT ?_) (fun h2=>hF ?_);all_goals clear hT hF T F;try simp at h2) 
 ·(refine qc fun Y Yh=>?_;simp[go_sem];apply Yh;clear Yh Y;apply Xi)
  (refine qi ?_;simp[go_sem, h2])
 ·(refine qc fun Y Yh=>?_;simp[go_sem];apply Yh;clear Yh Y;apply Xi)
  (refine qg fun T F hT hF=>?_;simp[go_sem];refine BR.intro (fun h3=>hT ?_) (fun h3=>hF ?_);all_goals clear hT hF T F;try simp at h3) 
  ·(refine qc fun Y Yh=>?_;simp[go_sem];apply Yh;clear Yh Y;apply Xi)
   (refine qi ?_;simp[go_sem, h2, h3])
  ·(refine qc fun Y Yh=>?_;simp[go_sem];apply Yh;clear Yh Y;apply Xi)
   (refine qg fun T F hT hF=>?_;simp[go_sem];refine BR.intro (fun h4=>hT ?_) (fun h4=>hF ?_);all_goals clear hT hF T F;try simp at h4) 
   ·(refine qc fun Y Yh=>?_;simp[go_sem];apply Yh;clear Yh Y;apply Xi)
    (refine qi ?_;simp[go_sem, h2, h3, h4])
   ·(refine qc fun Y Yh=>?_;simp[go_sem];apply Yh;clear Yh Y;apply Xi)
    (refine qg fun T F hT hF=>?_;simp[go_sem];refine BR.intro (fun h5=>hT ?_) (fun h5=>hF ?_);all_goals clear hT hF T F;try simp at h5) 
    ·(refine qc fun Y Yh=>?_;simp[go_sem];apply Yh;clear Yh Y;apply Xi)
     (refine qi ?_;simp[go_sem, h2, h3, h4, h5])
    ·(refine qc fun Y Yh=>?_;simp[go_sem];apply Yh;clear Yh Y;apply Xi)
     (refine qg fun T F hT hF=>?_;simp[go_sem];refine BR.intro (fun h6=>hT ?_) (fun h6=>hF ?_);all_goals clear hT hF T F;try simp at h6) 
     ·(refine qc fun Y Yh=>?_;simp[go_sem];apply Yh;clear Yh Y;apply Xi)
      (refine qi ?_;simp[go_sem, h2, h3, h4, h5, h6])
     ·(refine qc fun Y Yh=>?_;simp[go_sem];apply Yh;clear Yh Y;apply Xi)
      (refine qg fun T F hT hF=>?_;simp[go_sem];refine BR.intro (fun h7=>hT ?_) (fun h7=>hF ?_);all_goals clear hT hF T F;try simp at h7) 
      ·(refine qc fun Y Yh=>?_;simp[go_sem];apply Yh;clear Yh Y;apply Xi)
       (refine qi ?_;simp[go_sem, h2, h3, h4, h5, h6, h7])
      ·refine qh ?_
       refine hK1 _ ?_; clear hK1
       simp only [h2, h3, h4, h5, h6, h7, if_false]
       by_cases h8 : 0 ≤ n
       ·(refine qc fun Y Yh=>?_;simp[go_sem, h8];((repeat' (refine qH ?_;simp[go_sem, h8]))))
        (refine ZQ (dGs bu) (.inl ⟨rfl,rfl⟩) (by simp[go_sem]) ?_ ?_;(intro hc args ha;simp[go_sem] at ha;subst ha;exact B1);simp[go_sem];refine qH ?_;simp[go_sem])
        (refine qX (dI k) (.inl ⟨rfl,rfl⟩) ?_ rfl ?_;(intro hc args ha;simp[go_sem] at ha;subst ha;exact C2);simp[go_sem];refine qH ?_;simp[go_sem];apply Yh;clear Yh Y;apply Xi)
        (refine qi ?_;simp[go_sem, h8])
       ·(refine qc fun Y Yh=>?_;simp[go_sem, h8];((repeat' (first|(refine qG (by simp[go_sem, undef, h8]) (by simp[go_sem]) ?_;simp[go_sem, h8])|intro _|apply And.intro|(apply Yh;clear Yh Y)));all_goals first|apply Xi|omega|assumption|skip))
        (refine qi ?_;simp[go_sem, h8])
theorem QW (l : List Cnd) (df : D) (f : Nat) (caps : List D) (p : Cnd → Bool) (hf : FunD df f caps) (hp : ∀ x ∈ l, PCall Tryz.prog f (dC x :: caps) fun r => r = dB (p x)) (hl : l.length ≤ 1000000) : PCall Tryz.prog 284 [dCs l, df] fun r => r = dI (fIx p l) := by 
 have hf' := hf
 rcases hf with ⟨rfl, rfl⟩ | rfl
 ·refine qw Tryz.func284 rfl rfl Tryz.ntmps284 (rs := [.tmp 4]) (tys := [3]) rfl rfl (by simp) ?_
  (refine qc fun Y Yh=>?_;simp[go_sem];apply Yh;clear Yh Y;apply Xi)
  refine qf fun K1 hK1 => ?_
  (refine qc fun Y Yh=>?_;simp[go_sem];apply Yh;clear Yh Y;apply Xi)
  refine qj ?_
  refine qx (σ := Nat) (fun i => ⟨[(0, dCs l), (1, .v (.func (.func f) #[] #[])), (7, dI l.length), (8, dI i)], []⟩) (fun i => i ≤ l.length ∧ (l.take i).any p = false) (fun i => l.length - i) 0 (by (refine ql ?_ ?_ <;> simp[go_sem])) (by simp) ?_
  rintro i ⟨hi, hany⟩
  (refine qc fun Y Yh=>?_;simp[go_sem];apply Yh;clear Yh Y;apply Xi)
  refine qf fun K2 hK2 => ?_
  (refine qg fun T F hT hF=>?_;simp[go_sem];refine BR.intro (fun h3=>hT ?_) (fun h3=>hF ?_);all_goals clear hT hF T F;try simp at h3) 
  ·refine qh ?_
   refine hK2 _ ?_; clear hK2
   obtain ⟨x, hx⟩ : ∃ x, l[i]? = some x := ⟨_, List.getElem?_eq_getElem (by omega)⟩
   refine qf fun K4 hK4 => ?_
   refine qj ?_
   (refine qc fun Y Yh=>?_;simp[go_sem];apply Yh;clear Yh Y;apply Xi)
   (refine qc fun Y Yh=>?_;simp[go_sem, hx])
   ((try refine Xj ?_);refine qm (by first|exact .inl ⟨rfl,rfl⟩|exact .inr rfl) (by simp[go_sem]) ?_;intro args ha;simp[go_sem] at ha;subst ha;refine ⟨_, (hp x (List.mem_of_getElem? hx)), ?_⟩;rintro _ rfl;simp[go_sem];apply Yh;clear Yh Y;apply Xi)
   (refine qg fun T F hT hF=>?_;simp[go_sem];refine BR.intro (fun h5=>hT ?_) (fun h5=>hF ?_);all_goals clear hT hF T F;try simp at h5) 
   ·(refine qc fun Y Yh=>?_;simp[go_sem];apply Yh;clear Yh Y;apply Xi)
    (refine qi ?_;simp[go_sem])
    rw [fIx_at hany hx h5]
   ·refine qh ?_
    refine hK4 _ ?_; clear hK4
    (refine qB fun Y Yh=>?_;simp[go_sem];((repeat' (first|apply And.intro|(apply Yh;clear Yh Y)));all_goals first|apply Xi|omega))
    refine ⟨i + 1, ?_, ⟨by omega, take_anyG hany hx (by simp [h5])⟩, by omega⟩
    (refine ql ?_ ?_ <;> simp[go_sem])
  ·refine qp ?_
   simp only [go_sem]
   refine hK1 _ ?_; clear hK1
   (refine qc fun Y Yh=>?_;simp[go_sem];apply Yh;clear Yh Y;apply Xi)
   (refine qi ?_;simp[go_sem])
   have : i = l.length := by omega
   subst this
   rw [List.take_length] at hany
   rw [fIx_none hany]
 ·refine qw Tryz.func284 rfl rfl Tryz.ntmps284 (rs := [.tmp 4]) (tys := [3]) rfl rfl (by simp) ?_
  (refine qc fun Y Yh=>?_;simp[go_sem];apply Yh;clear Yh Y;apply Xi)
  refine qf fun K1 hK1 => ?_
  (refine qc fun Y Yh=>?_;simp[go_sem];apply Yh;clear Yh Y;apply Xi)
  refine qj ?_
  refine qx (σ := Nat) (fun i => ⟨[(0, dCs l), (1, .fn f caps), (7, dI l.length), (8, dI i)], []⟩) (fun i => i ≤ l.length ∧ (l.take i).any p = false) (fun i => l.length - i) 0 (by (refine ql ?_ ?_ <;> simp[go_sem])) (by simp) ?_
  rintro i ⟨hi, hany⟩
  (refine qc fun Y Yh=>?_;simp[go_sem];apply Yh;clear Yh Y;apply Xi)
  refine qf fun K2 hK2 => ?_
  (refine qg fun T F hT hF=>?_;simp[go_sem];refine BR.intro (fun h3=>hT ?_) (fun h3=>hF ?_);all_goals clear hT hF T F;try simp at h3) 
  ·refine qh ?_
   refine hK2 _ ?_; clear hK2
   obtain ⟨x, hx⟩ : ∃ x, l[i]? = some x := ⟨_, List.getElem?_eq_getElem (by omega)⟩
   refine qf fun K4 hK4 => ?_
   refine qj ?_
   (refine qc fun Y Yh=>?_;simp[go_sem];apply Yh;clear Yh Y;apply Xi)
   (refine qc fun Y Yh=>?_;simp[go_sem, hx])
   ((try refine Xj ?_);refine qm (by first|exact .inl ⟨rfl,rfl⟩|exact .inr rfl) (by simp[go_sem]) ?_;intro args ha;simp[go_sem] at ha;subst ha;refine ⟨_, (hp x (List.mem_of_getElem? hx)), ?_⟩;rintro _ rfl;simp[go_sem];apply Yh;clear Yh Y;apply Xi)
   (refine qg fun T F hT hF=>?_;simp[go_sem];refine BR.intro (fun h5=>hT ?_) (fun h5=>hF ?_);all_goals clear hT hF T F;try simp at h5) 
   ·(refine qc fun Y Yh=>?_;simp[go_sem];apply Yh;clear Yh Y;apply Xi)
    (refine qi ?_;simp[go_sem])
    rw [fIx_at hany hx h5]
   ·refine qh ?_
    refine hK4 _ ?_; clear hK4
    (refine qB fun Y Yh=>?_;simp[go_sem];((repeat' (first|apply And.intro|(apply Yh;clear Yh Y)));all_goals first|apply Xi|omega))
    refine ⟨i + 1, ?_, ⟨by omega, take_anyG hany hx (by simp [h5])⟩, by omega⟩
    (refine ql ?_ ?_ <;> simp[go_sem])
  ·refine qp ?_
   simp only [go_sem]
   refine hK1 _ ?_; clear hK1
   (refine qc fun Y Yh=>?_;simp[go_sem];apply Yh;clear Yh Y;apply Xi)
   (refine qi ?_;simp[go_sem])
   have : i = l.length := by omega
   subst this
   rw [List.take_length] at hany
   rw [fIx_none hany]
theorem vM (l : List Cnd) (df : D) (f : Nat) (caps : List D) (p : Cnd → Bool) (hf : FunD df f caps) (hp : ∀ x ∈ l, PCall Tryz.prog f (dC x :: caps) fun r => r = dB (p x)) (hl : l.length ≤ 1000000) : PCall Tryz.prog 250 [dCs l, df] fun r => r = dB (l.any p) := by
 have hf' := hf
 rcases hf with ⟨rfl, rfl⟩ | rfl
 all_goals
  refine qw Tryz.func250 rfl rfl Tryz.ntmps250 (rs := [.tmp 4]) (tys := [4]) rfl rfl (by simp) ?_
  (refine qc fun Y Yh=>?_;simp[go_sem];((repeat' (apply Yh;clear Yh Y));all_goals apply Xi))
  (refine qc fun Y Yh=>?_;simp[go_sem])
  ((try refine Xj ?_);refine qm (.inl ⟨rfl,rfl⟩) (by simp[go_sem]) ?_;intro args ha;simp[go_sem] at ha;subst ha;refine ⟨_, (QW _ _ _ _ _ hf' hp hl), ?_⟩;rintro _ rfl;simp[go_sem];((repeat' (apply Yh;clear Yh Y));all_goals apply Xi))
  (refine qi ?_;simp[go_sem, fIx_any])
theorem QL (c : Cnd) (hl : c.2.length ≤ 1000) : PCall Tryz.prog 251 [dC c] fun r => r = dB (preV c.2) := by
 refine qw Tryz.func251 rfl rfl Tryz.ntmps251 (rs := [.tmp 2]) (tys := [4]) rfl rfl (by simp) ?_
 have W := xk c.2 (by omega)
 have e := jY c.2
 (refine qc fun Y Yh=>?_;simp[go_sem];intro _;apply Yh;clear Yh Y;apply Xi)
 ((refine qE (.qs [0, 3, 1, 4, 5] (.kp 2 (.qs [6, 7] (.nil)))) (by kernel_rfl) ?_ ?_ ?_ ?_);kernel_rfl;exact (by decide +kernel);kernel_rfl;intro Y Yh;((repeat' (first|(refine qo fun Y Yh=>?_;simp[go_sem])|(refine qC fun Y Yh=>?_;simp[go_sem])|(apply Yh;clear Yh Y)))))
 ((try refine Xj ?_);refine qm (.inl ⟨rfl,rfl⟩) (by simp[go_sem]) ?_;intro args ha;simp[go_sem] at ha;subst ha;refine ⟨_, W, ?_⟩;rintro _ rfl;simp[go_sem];((repeat' (first|refine qy ?_|(refine qo fun Y Yh=>?_;simp[go_sem])|(apply Yh;clear Yh Y)));all_goals apply Xi))
 (refine qi ?_;simp[go_sem])
 exact e
theorem Zu (l : List Seg) (cs : List Cnd) (hl : l.length ≤ 1000) (hcs : cs.length ≤ 1000) (hc : ∀ c ∈ cs, VOk c.2) : PCall Tryz.prog 215 [dGs l, dCs cs] fun r => r = dB (meetsV l cs) := by 
 refine qw Tryz.func215 rfl rfl Tryz.ntmps215 (rs := [.tmp 4]) (tys := [4]) rfl rfl (by simp) ?_
 have W := xk l (by omega)
 have C := vM cs _ 251 [] (fun c => preV c.2) (.inl ⟨rfl, rfl⟩) (fun c h => QL c (by have := (hc c h).1; omega)) (by omega)
 have e := jY l
 have M := fun c h => Ju c l (hc c h) hl
 have hbad : ∀ c ∈ cs, metV l c = false → meetsV l cs = false := by
  intro c h hm
  unfold meetsV
  have : cs.all (metV l) = false := by
   rw [List.all_eq_false]; exact ⟨c, h, by simp [hm]⟩
  rw [this]; rfl
 have hok : cs.all (metV l) = true → meetsV l cs = (!preV l || cs.any fun c => preV c.2) := by
  intro h; unfold meetsV; rw [h]; rfl
 have hall : ∀ i c, cs[i]? = some c → (cs.take i).all (metV l) = true → metV l c = true → (cs.take (i + 1)).all (metV l) = true := by
  intro i c h h1 h2
  rw [List.take_add_one, h, List.all_append, h1]; simpa using h2
 generalize meetsV l cs = res at *
 generalize (cs.any fun c => preV c.2) = an at *
 generalize preV l = pr at *
 generalize wordsV l = wl at *
 subst e
 (refine qc fun Y Yh=>?_;simp[go_sem];apply Yh;clear Yh Y;apply Xi)
 (refine qc fun Y Yh=>?_;simp[go_sem])
 ((try refine Xj ?_);refine qm (.inl ⟨rfl,rfl⟩) (by simp[go_sem]) ?_;intro args ha;simp[go_sem] at ha;subst ha;refine ⟨_, W, ?_⟩;rintro _ rfl;simp[go_sem];apply Yh;clear Yh Y;apply Xi)
 refine qf fun K1 hK1 => ?_
 (refine qc fun Y Yh=>?_;simp[go_sem];apply Yh;clear Yh Y;apply Xi)
 refine qj ?_
 refine qx (σ := Nat) (fun i => ⟨[(0, dGs l), (1, dCs cs), (5, dB (decide (wl < l.length))), (13, dCs cs), (14, dI cs.length), (15, dI i)], []⟩) (fun i => i ≤ cs.length ∧ (cs.take i).all (metV l) = true) (fun i => cs.length - i) 0 ?_ ?_ ?_
 ·(refine ql ?_ ?_ <;> simp[go_sem])
 ·exact ⟨by omega, by simp⟩
 rintro i ⟨hi, ha⟩
 (refine qc fun Y Yh=>?_;simp[go_sem];apply Yh;clear Yh Y;apply Xi)
 refine qf fun K2 hK2 => ?_
 (refine qg fun T F hT hF=>?_;simp[go_sem];refine BR.intro (fun h3=>hT ?_) (fun h3=>hF ?_);all_goals clear hT hF T F;try simp at h3) 
 ·refine qh ?_
  refine hK2 _ ?_; clear hK2
  obtain ⟨c, hx⟩ : ∃ c, cs[i]? = some c := ⟨_, List.getElem?_eq_getElem (by omega)⟩
  have hm := List.mem_of_getElem? hx
  have M1 := M c hm
  have hb := hbad c hm
  have ha2 := hall i c hx ha
  generalize metV l c = mc at *
  refine qf fun K4 hK4 => ?_
  refine qj ?_
  (refine qc fun Y Yh=>?_;simp[go_sem, hx];intro _;apply Yh;clear Yh Y;apply Xi)
  (refine qc fun Y Yh=>?_;simp[go_sem])
  ((try refine Xj ?_);refine qm (.inl ⟨rfl,rfl⟩) (by simp[go_sem]) ?_;intro args ha;simp[go_sem] at ha;subst ha;refine ⟨_, M1, ?_⟩;rintro _ rfl;simp[go_sem];apply Yh;clear Yh Y;apply Xi)
  (refine qg fun T F hT hF=>?_;simp[go_sem];refine BR.intro (fun h5=>hT ?_) (fun h5=>hF ?_);all_goals clear hT hF T F;try simp at h5) 
  ·(refine qc fun Y Yh=>?_;simp[go_sem];apply Yh;clear Yh Y;apply Xi)
   (refine qi ?_;simp[go_sem, hb h5])
  ·refine qh ?_
   refine hK4 _ ?_; clear hK4
   (refine qB fun Y Yh=>?_;simp[go_sem];((repeat' (first|apply And.intro|(apply Yh;clear Yh Y)));all_goals first|apply Xi|omega))
   refine ⟨i + 1, ?_, ⟨by omega, ha2 h5⟩, by omega⟩
   (refine ql ?_ ?_ <;> simp[go_sem])
 ·refine qp ?_
  simp only [go_sem]
  refine hK1 _ ?_; clear hK1
  have : i = cs.length := by omega
  subst this
  rw [List.take_length] at ha
  rw [hok ha]
  by_cases hp : wl < l.length
  ·(refine qc fun Y Yh=>?_;simp[go_sem, hp];((repeat' (refine qH ?_;simp[go_sem, hp]))))
   (refine qX (dB an) (.inl ⟨rfl,rfl⟩) ?_ rfl ?_;(intro hc args ha;simp[go_sem] at ha;subst ha;exact C);simp[go_sem];apply Yh;clear Yh Y;apply Xi)
   (refine qi ?_;simp[go_sem, hp])
  ·(refine qc fun Y Yh=>?_;simp[go_sem, hp];((repeat' (first|(refine qG (by simp[go_sem, undef, hp]) (by simp[go_sem]) ?_;simp[go_sem, hp])|intro _|apply And.intro|(apply Yh;clear Yh Y)));all_goals first|apply Xi|omega|assumption|skip))
   (refine qi ?_;simp[go_sem, hp])
theorem xN (v w : List UInt8) (hv : v.length ≤ 1000000) (hw : w.length ≤ 1000000) : PCall Tryz.prog 137 [dS v, dS w] fun r => r = .tup [dI (compareP v w), dI (codeP ((readV v).isSome && (readV w).isSome))] := by 
 refine qw Tryz.func137 rfl rfl Tryz.ntmps137 (rs := [.tmp 4, .tmp 5]) (tys := [3, 35]) rfl rfl (by simp) ?_
 have R1 := jv v (by omega)
 have R2 := jv w (by omega)
 have h1 := @read_ok v
 have h2 := @read_ok w
 unfold compareP codeP
 generalize readP v = a at *
 generalize readP w = b at *
 have C := fun (p : (readV v).isSome = true) (q : (readV w).isSome = true) => jI a b (by have := (h1 p).2.1.1; omega) (by have := (h2 q).2.1.1; omega)
 generalize (readV v).isSome = x at *
 generalize (readV w).isSome = y at *
 (refine qc fun Y Yh=>?_;simp[go_sem];apply Yh;clear Yh Y;apply Xi)
 (refine qc fun Y Yh=>?_;simp[go_sem])
 ((try refine Xj ?_);refine qm (.inl ⟨rfl,rfl⟩) (by simp[go_sem]) ?_;intro args ha;simp[go_sem] at ha;subst ha;refine ⟨_, R1, ?_⟩;rintro _ rfl;simp[go_sem];apply Yh;clear Yh Y;apply Xi)
 (refine qc fun Y Yh=>?_;simp[go_sem])
 ((try refine Xj ?_);refine qm (.inl ⟨rfl,rfl⟩) (by simp[go_sem]) ?_;intro args ha;simp[go_sem] at ha;subst ha;refine ⟨_, R2, ?_⟩;rintro _ rfl;simp[go_sem];apply Yh;clear Yh Y;apply Xi)
 refine qf fun K1 hK1 => ?_
 cases x with
 | false =>
  (refine qc fun Y Yh=>?_;simp[go_sem];((repeat' (first|(refine qG (by simp[go_sem, undef]) (by simp[go_sem]) ?_;simp[go_sem])|intro _|apply And.intro|(apply Yh;clear Yh Y)));all_goals first|apply Xi|omega|assumption|skip))
  (refine qg fun T F hT hF=>?_;simp[go_sem];refine hT ?_;clear hT hF T F)
  (refine qc fun Y Yh=>?_;simp[go_sem];apply Yh;clear Yh Y;apply Xi)
  (refine qi ?_;simp[go_sem])
 | true =>
  cases y with
  | false =>
   (refine qc fun Y Yh=>?_;simp[go_sem];refine qH ?_;simp[go_sem];refine qH ?_;simp[go_sem];apply Yh;clear Yh Y;apply Xi)
   (refine qg fun T F hT hF=>?_;simp[go_sem];refine hT ?_;clear hT hF T F)
   (refine qc fun Y Yh=>?_;simp[go_sem];apply Yh;clear Yh Y;apply Xi)
   (refine qi ?_;simp[go_sem])
  | true =>
   (refine qc fun Y Yh=>?_;simp[go_sem];refine qH ?_;simp[go_sem];refine qH ?_;simp[go_sem];apply Yh;clear Yh Y;apply Xi)
   (refine qg fun T F hT hF=>?_;simp[go_sem];refine hF ?_;clear hT hF T F)
   refine qh ?_
   refine hK1 _ ?_; clear hK1
   (refine qc fun Y Yh=>?_;simp[go_sem])
   ((try refine Xj ?_);refine qm (.inl ⟨rfl,rfl⟩) (by simp[go_sem]) ?_;intro args ha;simp[go_sem] at ha;subst ha;refine ⟨_, (C rfl rfl), ?_⟩;rintro _ rfl;simp[go_sem];apply Yh;clear Yh Y;apply Xi)
   (refine qi ?_;simp[go_sem])
theorem ZI (v r : List UInt8) (hv : v.length ≤ 1000000) (hw : r.length ≤ 1000000) : PCall Tryz.prog 181 [dS v, dS r] fun x => x = .tup [dB (meetsP v r), dI (codeP ((readV v).isSome && (condsV r).isSome))] := by 
 refine qw Tryz.func181 rfl rfl Tryz.ntmps181 (rs := [.tmp 4, .tmp 5]) (tys := [4, 35]) rfl rfl (by simp) ?_
 have R1 := jv v (by omega)
 have R2 := jL r (by omega)
 have h1 := @read_ok v
 have h2 := @conds_ok r
 unfold meetsP codeP
 generalize readP v = a at *
 generalize condsP r = b at *
 have C := fun (p : (readV v).isSome = true) (q : (condsV r).isSome = true) => Zu a b (by have := (h1 p).2.1.1; omega) (by have := (h2 q).2.2; omega) (fun c hc => ((h2 q).2.1 c hc).2.1)
 generalize (readV v).isSome = x at *
 generalize (condsV r).isSome = y at *
 (refine qc fun Y Yh=>?_;simp[go_sem];apply Yh;clear Yh Y;apply Xi)
 (refine qc fun Y Yh=>?_;simp[go_sem])
 ((try refine Xj ?_);refine qm (.inl ⟨rfl,rfl⟩) (by simp[go_sem]) ?_;intro args ha;simp[go_sem] at ha;subst ha;refine ⟨_, R1, ?_⟩;rintro _ rfl;simp[go_sem];apply Yh;clear Yh Y;apply Xi)
 (refine qc fun Y Yh=>?_;simp[go_sem])
 ((try refine Xj ?_);refine qm (.inl ⟨rfl,rfl⟩) (by simp[go_sem]) ?_;intro args ha;simp[go_sem] at ha;subst ha;refine ⟨_, R2, ?_⟩;rintro _ rfl;simp[go_sem];apply Yh;clear Yh Y;apply Xi)
 refine qf fun K1 hK1 => ?_
 cases x with
 | false =>
  (refine qc fun Y Yh=>?_;simp[go_sem];((repeat' (first|(refine qG (by simp[go_sem, undef]) (by simp[go_sem]) ?_;simp[go_sem])|intro _|apply And.intro|(apply Yh;clear Yh Y)));all_goals first|apply Xi|omega|assumption|skip))
  (refine qg fun T F hT hF=>?_;simp[go_sem];refine hT ?_;clear hT hF T F)
  (refine qc fun Y Yh=>?_;simp[go_sem];apply Yh;clear Yh Y;apply Xi)
  (refine qi ?_;simp[go_sem])
 | true =>
  cases y with
  | false =>
   (refine qc fun Y Yh=>?_;simp[go_sem];refine qH ?_;simp[go_sem];refine qH ?_;simp[go_sem];apply Yh;clear Yh Y;apply Xi)
   (refine qg fun T F hT hF=>?_;simp[go_sem];refine hT ?_;clear hT hF T F)
   (refine qc fun Y Yh=>?_;simp[go_sem];apply Yh;clear Yh Y;apply Xi)
   (refine qi ?_;simp[go_sem])
  | true =>
   (refine qc fun Y Yh=>?_;simp[go_sem];refine qH ?_;simp[go_sem];refine qH ?_;simp[go_sem];apply Yh;clear Yh Y;apply Xi)
   (refine qg fun T F hT hF=>?_;simp[go_sem];refine hF ?_;clear hT hF T F)
   refine qh ?_
   refine hK1 _ ?_; clear hK1
   (refine qc fun Y Yh=>?_;simp[go_sem])
   ((try refine Xj ?_);refine qm (.inl ⟨rfl,rfl⟩) (by simp[go_sem]) ?_;intro args ha;simp[go_sem] at ha;subst ha;refine ⟨_, (C rfl rfl), ?_⟩;rintro _ rfl;simp[go_sem];apply Yh;clear Yh Y;apply Xi)
   (refine qi ?_;simp[go_sem])
end Go.Proofs.YteekfnhhlcmcgaaGreatDoor
namespace Go.Ver
open Go.Lib Go.Wh
def rsP (s : List UInt8) : Seg := if s = [] ∨ 10 < s.length then z0s else if s.all isL = true then (s, 0) else if s.all isD = true then ([], (decVal s : Int)) else z0s
theorem Xc {s : List UInt8} {x : Seg} (h : segV s = some x) : rsP s = x := by
 unfold segV at h
 unfold rsP
 split at h
 ·simp at h
 ·rename_i h0
  rw [if_neg h0]
  split at h
  ·rename_i h1; rw [if_pos h1]; simpa using h
  ·rename_i h1
   rw [if_neg h1]
   split at h
   ·rename_i h2
    simp only [Bool.and_eq_true] at h2
    rw [if_pos h2.1.1]; simpa using h
   ·simp at h
theorem rs_none {s : List UInt8} (h : s = [] ∨ 10 < s.length) : rsP s = z0s ∧ (segV s).isSome = false := by
 unfold rsP segV; rw [if_pos h, if_pos h]; exact ⟨rfl, rfl⟩
theorem rs_L {s : List UInt8} (h : ¬ (s = [] ∨ 10 < s.length)) (h1 : s.all isL = true) : rsP s = (s, 0) ∧ (segV s).isSome = true := by
 unfold rsP segV; rw [if_neg h, if_neg h, if_pos h1, if_pos h1]; exact ⟨rfl, rfl⟩
theorem rs_bad {s : List UInt8} (h : ¬ (s = [] ∨ 10 < s.length)) (h1 : ¬ s.all isL = true) (h2 : ¬ s.all isD = true) : rsP s = z0s ∧ (segV s).isSome = false := by
 unfold rsP segV; rw [if_neg h, if_neg h, if_neg h1, if_neg h1, if_neg h2, if_neg (by simp [h2])]; exact ⟨rfl, rfl⟩
theorem rs_num {s : List UInt8} (h : ¬ (s = [] ∨ 10 < s.length)) (h1 : ¬ s.all isL = true) (h2 : s.all isD = true) : rsP s = ([], (decVal s : Int)) ∧ (segV s).isSome = (decide (decVal s ≤ 1000000000) && decide (itoa (decVal s : Int) = s)) := by
 unfold rsP segV; rw [if_neg h, if_neg h, if_neg h1, if_neg h1, if_pos h2]
 refine ⟨rfl, ?_⟩
 have hne : s ≠ [] := fun e => h (.inl e)
 have hD : ∀ c ∈ s, isD c = true := by simpa using h2
 have e : itoa (decVal s : Int) = decDigits (decVal s) := by unfold itoa; rw [if_neg (by omega), Int.toNat_natCast]
 rw [e]
 have hq : (s.head? ≠ some 48 ∨ s = [48]) ↔ decDigits (decVal s) = s := by
  refine ⟨fun q => dec_back hne q hD, fun q => ?_⟩
  by_cases h0 : decVal s = 0
  ·right; rw [h0] at q; rw [← q, decDigits]; rfl
  ·left; have := decDigits_head _ h0; rw [q] at this; exact this
 rw [h2]
 by_cases ha : s.head? ≠ some 48 ∨ s = [48]
 ·have hb := hq.1 ha
  by_cases hc : decVal s ≤ 1000000000
  ·rw [if_pos (by simp only [Bool.and_eq_true, Bool.or_eq_true, decide_eq_true_eq]; exact ⟨⟨trivial, ha⟩, hc⟩)]; simp [hb, hc]
  ·rw [if_neg (by simp [hc])]; simp [hc]
 ·have hb : ¬ decDigits (decVal s) = s := fun q => ha (hq.2 q)
  rw [if_neg (by
   intro q
   simp only [Bool.and_eq_true, Bool.or_eq_true, decide_eq_true_eq] at q
   exact ha q.1.2)]
  simp [hb]
def readR (v : List UInt8) : List Seg := if (readV v).isSome = true then readP v else []
theorem readR_of {v : List UInt8} {l : List Seg} (h : readV v = some l) : readR v = l := by
 unfold readR; rw [h, kZ h]; rfl
theorem J5 {v : List UInt8} (h : 60 < v.length ∨ 8 < (dots 46 v).length) : readV v = none := by
 unfold readV
 by_cases h0 : 60 < v.length
 ·rw [if_pos h0]
 ·rw [if_neg h0]
  have h1 : 8 < (dots 46 v).length := h.resolve_left h0
  split
  ·rename_i l hl
   have := congrArg List.length (xy hl).1
   simp at this
   rw [if_neg (by omega)]
  ·rfl
theorem Zl {v p : List UInt8} (hp : p ∈ dots 46 v) (h : segsV (dots 46 v) = none) : readV v = none := by
 unfold readV; rw [h]; split <;> rfl
theorem Zk {v p : List UInt8} {x : Seg} (hp : (dots 46 v)[0]? = some p) (hx : segV p = some x) (hw : x.1 ≠ []) : readV v = none := by
 unfold readV
 split
 ·rfl
 ·cases hd : dots 46 v with
  | nil => rw [hd] at hp; simp at hp
  | cons q r =>
   rw [hd] at hp
   simp at hp
   subst hp
   unfold segsV
   rw [hx]
   cases segsV r with
   | none => rfl
   | some l => simp [hw]
theorem Zm {v : List UInt8} {l : List Seg} (h : ¬ (60 < v.length ∨ 8 < (dots 46 v).length)) (hs : segsV (dots 46 v) = some l) (hw : l.head?.map (·.1) = some []) : readV v = some l := by
 unfold readV
 have := congrArg List.length (xy hs).1
 simp at this
 rw [if_neg (fun q => h (.inl q)), hs]
 simp only
 rw [if_pos ⟨by omega, hw⟩]
theorem all_snoc {α : Type} {p : α → Bool} {l : List α} {i : Nat} {x : α} (h : (l.take i).all p = true) (hx : l[i]? = some x) (hp : p x = true) : (l.take (i + 1)).all p = true := by
 rw [List.take_add_one, hx, List.all_append, h]; simpa using hp
theorem all_not {α : Type} {p : α → Bool} {l : List α} {i : Nat} {x : α} (hx : l[i]? = some x) (hp : ¬ p x = true) : ¬ l.all p = true := by
 intro h; exact hp (List.all_eq_true.1 h x (List.mem_of_getElem? hx))
theorem decVal_take {s : List UInt8} {i : Nat} {c : UInt8} (h : s[i]? = some c) : decVal (s.take (i + 1)) = decVal (s.take i) * 10 + dgt c := by
 rw [List.take_add_one, h]; exact decVal_snoc _ _
end Go.Ver
namespace Go.Proofs.YteekfnhhlcmcgaaGreatDoor
open Go.Eng Go.Wh Go.Ver
set_option maxRecDepth 20000
attribute [local irreducible] AG CallA CallT AWp PCall ACall AgC
set_option maxHeartbeats 8000000 in
theorem wu (s : List UInt8) (hl : s.length ≤ 1000000000) : PCall Tryz.prog 152 [dS s] fun r => r = .tup [dG (rsP s), dB (segV s).isSome] := by 
 refine qw Tryz.func152 rfl rfl Tryz.ntmps152 (rs := [.cell 2 229, .tmp 3]) (tys := [229, 4]) rfl rfl (by simp) ?_
 have T1 := jF s abcL (by omega) (by decide) (by decide)
 have e1 := trim_letters s
 generalize Lib.trimS s abcL = a at *
 have hN := @rs_none s
 have hL := @rs_L s
 have hB := @rs_bad s
 have hM := @rs_num s
 have hI := fun (h : s.length ≤ 10) (h1 : s.all isD = true) => decVal_lt (s := s) (by simpa using h1)
 have hd := fun i c (h : s[i]? = some c) => decVal_take h
 have hda := fun i c (h : s[i]? = some c) => @all_snoc _ isD s i c
 have hdn := fun i c (h : s[i]? = some c) => @all_not _ isD s i c
 have hdt := fun i (h : (s.take i).all isD = true) => decVal_lt (s := s.take i) (by simpa using h)
 have hfull := List.take_length (l := s)
 have hit := xX (decVal s : Int)
 generalize hP : rsP s = p at *
 generalize hV : (segV s).isSome = v at *
 generalize hiL : s.all isL = iL at *
 (refine qc fun Y Yh=>?_;simp[go_sem];intro _;apply Yh;clear Yh Y;apply Xi)
 rename_i g2
 refine qf fun K1 hK1 => ?_
 (refine qc fun Y Yh=>?_;simp[go_sem];((repeat' (first|(refine qH ?_;simp[go_sem])|(apply Yh;clear Yh Y)));all_goals apply Xi))
 (refine qg fun T F hT hF=>?_;simp[go_sem];refine BR.intro (fun h2=>hT ?_) (fun h2=>hF ?_);all_goals clear hT hF T F;try simp at h2) 
 ·obtain ⟨q1, q2⟩ := hN (by
   rcases h2 with h | h
   ·exact .inl h
   ·exact .inr (by omega))
  subst q1 q2
  (refine qc fun Y Yh=>?_;simp[go_sem];apply Yh;clear Yh Y;apply Xi)
  (refine qi ?_;simp[go_sem])
 ·have h2' : ¬ (s = [] ∨ 10 < s.length) := by
   rintro (h | h)
   ·exact h2.1 h
   ·have := h2.2; omega
  have hlen : s.length ≤ 10 := by have := h2.2; omega
  refine qh ?_
  refine hK1 _ ?_; clear hK1
  refine qf fun K3 hK3 => ?_
  (refine qc fun Y Yh=>?_;simp[go_sem])
  ((try refine Xj ?_);refine qm (.inl ⟨rfl,rfl⟩) (by simp[go_sem]) ?_;intro args ha;simp[go_sem] at ha;subst ha;refine ⟨_, T1, ?_⟩;rintro _ rfl;simp[go_sem];apply Yh;clear Yh Y;apply Xi)
  (refine qg fun T F hT hF=>?_;simp[go_sem];refine BR.intro (fun h4=>hT ?_) (fun h4=>hF ?_);all_goals clear hT hF T F;try simp at h4) 
  ·obtain ⟨q1, q2⟩ := hL h2' (e1.1 h4)
   subst q1 q2
   (refine qc fun Y Yh=>?_;simp[go_sem];apply Yh;clear Yh Y;apply Xi)
   (refine qi ?_;simp[go_sem])
  ·have hnL : ¬ iL = true := fun q => h4 (e1.2 q)
   refine qh ?_
   refine hK3 _ ?_; clear hK3
   (refine qc fun Y Yh=>?_;simp[go_sem];apply Yh;clear Yh Y;apply Xi)
   refine qf fun K5 hK5 => ?_
   (refine qc fun Y Yh=>?_;simp[go_sem];apply Yh;clear Yh Y;apply Xi)
   refine qj ?_
   refine qx (σ := Nat) (fun i => ⟨[(0, dS s), (2, .ptr 2 g2 0), (4, dI (decVal (s.take i))), (5, dI i)], [(2, g2, .box [dS [], dI 0])]⟩) (fun i => i ≤ s.length ∧ (s.take i).all isD = true) (fun i => s.length - i) 0 ?_ ?_ ?_
   ·(refine ql ?_ ?_ <;> simp[go_sem, decVal])
   ·exact ⟨by omega, by simp⟩
   rintro i ⟨hi, had⟩
   have hub : decVal (s.take i) < 10 ^ 10 := by
    have h1 := hdt i had
    have h2 : 10 ^ (s.take i).length ≤ 10 ^ 10 := Nat.pow_le_pow_right (by decide) (by simp; omega)
    omega
   refine qf fun K6 hK6 => ?_
   (refine qc fun Y Yh=>?_;simp[go_sem];apply Yh;clear Yh Y;apply Xi)
   (refine qg fun T F hT hF=>?_;simp[go_sem];refine BR.intro (fun h7=>hT ?_) (fun h7=>hF ?_);all_goals clear hT hF T F;try simp at h7) 
   ·refine qh ?_
    refine hK6 _ ?_; clear hK6
    obtain ⟨c, hc⟩ : ∃ c, s[i]? = some c := ⟨_, List.getElem?_eq_getElem (by omega)⟩
    have hd1 := hd i c hc
    have hda1 := hda i c hc had hc
    have hdn1 := hdn i c hc hc
    have hcb : c.toNat < 256 := c.toNat_lt
    refine qf fun K8 hK8 => ?_
    refine qj ?_
    refine qf fun K9 hK9 => ?_
    (refine qc fun Y Yh=>?_;simp[go_sem, hc];((repeat' (first|(refine qH ?_;simp[go_sem, hc])|(apply Yh;clear Yh Y)));all_goals apply Xi))
    (refine qg fun T F hT hF=>?_;simp[go_sem];refine BR.intro (fun h10=>hT ?_) (fun h10=>hF ?_);all_goals clear hT hF T F;try simp at h10) 
    ·obtain ⟨q1, q2⟩ := hB h2' hnL (hdn1 (by simp [isD]; omega))
     subst q1 q2
     (refine qc fun Y Yh=>?_;simp[go_sem];apply Yh;clear Yh Y;apply Xi)
     (refine qi ?_;simp[go_sem])
    ·have hw : IntKind.u8.wrap ((c.toNat : Int) - 48) = (dgt c : Int) := by
      rw [show IntKind.u8.wrap ((c.toNat : Int) - 48) = ((c.toNat : Int) - 48) % 256 by simp [IntKind.wrap, IntKind.bits, IntKind.signed]]
      unfold dgt; omega
     have hdg : dgt c ≤ 9 := by unfold dgt; omega
     refine qh ?_
     refine hK9 _ ?_; clear hK9
     generalize decVal (s.take i) = dv at *
     generalize dgt c = dc at *
     (refine qB fun Y Yh=>?_;simp[go_sem, hc, hw];((repeat' (first|apply And.intro|(apply Yh;clear Yh Y)));all_goals first|apply Xi|omega))
     refine hK8 _ ?_; clear hK8
     (refine qB fun Y Yh=>?_;simp[go_sem];((repeat' (first|apply And.intro|(apply Yh;clear Yh Y)));all_goals first|apply Xi|omega))
     refine ⟨i + 1, ?_, ⟨by omega, hda1 (by simp [isD]; omega)⟩, by omega⟩
     rw [hd1]
     (refine ql ?_ ?_ <;> simp[go_sem])
     omega
   ·refine qp ?_
    simp only [go_sem]
    refine hK5 _ ?_; clear hK5
    have hie : i = s.length := by omega
    subst hie
    rw [hfull] at had hub ⊢
    obtain ⟨q1, q2⟩ := hM h2' hnL had
    have I1 := hit (by omega) (by omega)
    generalize Lib.itoa (decVal s : Int) = t at *
    generalize decVal s = dv at *
    subst q1 q2
    by_cases hle : (dv : Int) ≤ 1000000000
    ·(refine qc fun Y Yh=>?_;simp[go_sem, hle];((repeat' (refine qH ?_;simp[go_sem, hle]))))
     (refine qX (dS t) (.inl ⟨rfl,rfl⟩) ?_ rfl ?_;(intro hc args ha;simp[go_sem] at ha;subst ha;exact I1);simp[go_sem];refine qH ?_;simp[go_sem];refine qH ?_;simp[go_sem];apply Yh;clear Yh Y;apply Xi)
     (refine qi ?_;simp[go_sem])
     have hle' : dv ≤ 1000000000 := by omega
     by_cases hq : t = s
     ·simp [hle', hq]
     ·simp [hle', hq]
    ·(refine qc fun Y Yh=>?_;simp[go_sem, hle];((repeat' (first|(refine qG (by simp[go_sem, undef, hle]) (by simp[go_sem]) ?_;simp[go_sem, hle])|intro _|apply And.intro|(apply Yh;clear Yh Y)));all_goals first|apply Xi|omega|assumption|skip))
     (refine qi ?_;simp[go_sem])
     intro q; omega
set_option maxHeartbeats 8000000 in
theorem zO (v : List UInt8) (hl : v.length ≤ 1000000000) : PCall Tryz.prog 110 [dS v] fun r => r = .tup [dGs (readR v), dB (readV v).isSome] := by 
 refine qw Tryz.func110 rfl rfl Tryz.ntmps110 (rs := [.tmp 2, .tmp 3]) (tys := [183, 4]) rfl rfl (by simp) ?_
 have S1 := zZ v [46] (by omega) (by simp)
 rw [split_dots] at S1
 have hdl := dots_len 46 v
 have hdp := dots_part 46 v
 have hdn := dots_ne 46 v
 have hbig := @J5 v
 have hpart := fun p => @Zl v p
 have hword := fun p x => @Zk v p x
 have hgood := fun l => @Zm v l
 have hof := fun l => @readR_of v l
 have hnone : readV v = none → readR v = [] ∧ (readV v).isSome = false := fun h => by unfold readR; rw [h]; exact ⟨rfl, rfl⟩
 have hsome : ∀ l, readV v = some l → (readV v).isSome = true := fun l h => by rw [h]; rfl
 generalize hps : dots 46 v = ps at *
 generalize hR : readR v = R at *
 generalize hS : (readV v).isSome = B at *
 (refine qc fun Y Yh=>?_;simp[go_sem];apply Yh;clear Yh Y;apply Xi)
 (refine qc fun Y Yh=>?_;simp[go_sem])
 ((try refine Xj ?_);refine qm (.inl ⟨rfl,rfl⟩) (by simp[go_sem]) ?_;intro args ha;simp[go_sem] at ha;subst ha;refine ⟨_, S1, ?_⟩;rintro _ rfl;simp[go_sem];apply Yh;clear Yh Y;apply Xi)
 refine qf fun K1 hK1 => ?_
 (refine qc fun Y Yh=>?_;simp[go_sem];((repeat' (first|(refine qH ?_;simp[go_sem])|(apply Yh;clear Yh Y)));all_goals apply Xi))
 (refine qg fun T F hT hF=>?_;simp[go_sem];refine BR.intro (fun h2=>hT ?_) (fun h2=>hF ?_);all_goals clear hT hF T F;try simp at h2) 
 ·obtain ⟨q1, q2⟩ := hnone (hbig (by omega))
  subst q1 q2
  (refine qc fun Y Yh=>?_;simp[go_sem];apply Yh;clear Yh Y;apply Xi)
  (refine qi ?_;simp[go_sem])
 ·refine qh ?_
  refine hK1 _ ?_; clear hK1
  have h2' : ¬ (60 < v.length ∨ 8 < ps.length) := by omega
  (refine qc fun Y Yh=>?_;simp[go_sem];apply Yh;clear Yh Y;apply Xi)
  refine qU 5 5 229 2 rfl fun g5 => ?_
  simp only [go_sem]
  refine qf fun K3 hK3 => ?_
  (refine qc fun Y Yh=>?_;simp[go_sem];apply Yh;clear Yh Y;apply Xi)
  refine qj ?_
  refine qx (σ := Nat × List Seg × Nat) (fun x => ⟨[(4, dSs ps), (5, .own 5 x.2.2), (6, dI x.1)], [(5, x.2.2, .row 229 2 (x.2.1.map cG))]⟩) (fun x => x.1 ≤ ps.length ∧ x.2.1.length = x.1 ∧ segsV (ps.take x.1) = some x.2.1 ∧ (0 < x.1 → x.2.1.head?.map (·.1) = some [])) (fun x => ps.length - x.1) (0, [], g5) ?_ ?_ ?_
  ·(refine ql ?_ ?_ <;> simp[go_sem])
  ·exact ⟨by omega, rfl, rfl, fun h => absurd h (by simp)⟩
  rintro ⟨i, out, g⟩ ⟨hi, ho, hs, hh⟩
  simp only at hi ho hs hh
  refine qf fun K4 hK4 => ?_
  (refine qc fun Y Yh=>?_;simp[go_sem];apply Yh;clear Yh Y;apply Xi)
  (refine qg fun T F hT hF=>?_;simp[go_sem];refine BR.intro (fun h5=>hT ?_) (fun h5=>hF ?_);all_goals clear hT hF T F;try simp at h5) 
  ·refine qh ?_
   refine hK4 _ ?_; clear hK4
   have hi' : i < ps.length := by omega
   obtain ⟨p, hp⟩ : ∃ p, ps[i]? = some p := ⟨_, List.getElem?_eq_getElem hi'⟩
   have hpm : p ∈ ps := List.mem_of_getElem? hp
   have R1 := wu p (by have := hdp p hpm; omega)
   have hbad := hpart p hpm
   have hsb : segV p = none → segsV ps = none := fun h => wK hpm h
   have hsn := fun (x : Seg) (h : segV p = some x) => kX hs h
   have hsp := @Xc p
   have hwd := fun x (h : i = 0) => hword p x (by rw [← h]; exact hp)
   refine qf fun K6 hK6 => ?_
   refine qj ?_
   generalize rsP p = q at *
   generalize hsv : segV p = sv at *
   (refine qc fun Y Yh=>?_;simp[go_sem, hp])
   ((try refine Xj ?_);refine qm (.inl ⟨rfl,rfl⟩) (by simp[go_sem]) ?_;intro args ha;simp[go_sem] at ha;subst ha;refine ⟨_, R1, ?_⟩;rintro _ rfl;simp[go_sem];intro _;apply Yh;clear Yh Y;apply Xi)
   rename_i g7
   refine qf fun K7 hK7 => ?_
   cases sv with
   | none =>
    obtain ⟨q1, q2⟩ := hnone (hbad (hsb rfl))
    subst q1 q2
    simp only [Option.isSome_none]
    (refine qc fun Y Yh=>?_;simp[go_sem];((repeat' (first|(refine qG (by simp[go_sem, undef]) (by simp[go_sem]) ?_;simp[go_sem])|intro _|apply And.intro|(apply Yh;clear Yh Y)));all_goals first|apply Xi|omega|assumption|skip))
    (refine qg fun T F hT hF=>?_;simp[go_sem];refine hT ?_;clear hT hF T F)
    (refine qc fun Y Yh=>?_;simp[go_sem];apply Yh;clear Yh Y;apply Xi)
    (refine qi ?_;simp[go_sem])
   | some x =>
    obtain rfl := hsp rfl
    simp only [Option.isSome_some]
    have e : ps.take (i + 1) = ps.take i ++ [p] := by rw [List.take_add_one, hp]; rfl
    by_cases h0 : i = 0
    ·have h0' : (i : Int) = 0 := by omega
     by_cases hw : q.1 = []
     ·(refine qc fun Y Yh=>?_;simp[go_sem, h0'];((repeat' (first|(refine qH ?_;simp[go_sem, h0'])|(apply Yh;clear Yh Y)));all_goals apply Xi))
      (refine qg fun T F hT hF=>?_;simp[go_sem, hw];refine hF ?_;clear hT hF T F)
      refine qh ?_
      refine hK7 _ ?_; clear hK7
      (refine qB fun Y Yh=>?_;simp[go_sem];((repeat' (first|intro _|apply And.intro|(apply Yh;clear Yh Y)));all_goals first|apply Xi|omega))
      refine hK6 _ ?_; clear hK6
      (refine qB fun Y Yh=>?_;simp[go_sem];((repeat' (first|apply And.intro|(apply Yh;clear Yh Y)));all_goals first|apply Xi|omega))
      rename_i g28 g'
      refine ⟨(i + 1, out ++ [q], g'), ?_, ⟨by simp only; omega, by simp [ho], ?_, ?_⟩, by simp only; omega⟩
      ·(refine ql ?_ ?_ <;> simp[go_sem])
       all_goals omega
      ·simp only [e]
       exact hsn q rfl
      ·intro _
       subst h0
       cases out with
       | nil => simp [hw]
       | cons a b => simp at ho
     ·have hwe : q.1.isEmpty = false := by cases hqq : q.1 with
       | nil => exact absurd hqq hw
       | cons => rfl
      obtain ⟨q1, q2⟩ := hnone (hwd q h0 rfl hw)
      subst q1 q2
      (refine qc fun Y Yh=>?_;simp[go_sem, h0'];((repeat' (first|(refine qH ?_;simp[go_sem, h0'])|(apply Yh;clear Yh Y)));all_goals apply Xi))
      (refine qg fun T F hT hF=>?_;simp[go_sem, hwe];refine hT ?_;clear hT hF T F)
      (refine qc fun Y Yh=>?_;simp[go_sem];apply Yh;clear Yh Y;apply Xi)
      (refine qi ?_;simp[go_sem])
    ·have h0' : ¬ (i : Int) = 0 := by omega
     (refine qc fun Y Yh=>?_;simp[go_sem, h0'];((repeat' (first|(refine qH ?_;simp[go_sem, h0'])|(apply Yh;clear Yh Y)));all_goals apply Xi))
     (refine qg fun T F hT hF=>?_;simp[go_sem, h0];refine hF ?_;clear hT hF T F)
     refine qh ?_
     refine hK7 _ ?_; clear hK7
     (refine qB fun Y Yh=>?_;simp[go_sem];((repeat' (first|intro _|apply And.intro|(apply Yh;clear Yh Y)));all_goals first|apply Xi|omega))
     refine hK6 _ ?_; clear hK6
     (refine qB fun Y Yh=>?_;simp[go_sem];((repeat' (first|apply And.intro|(apply Yh;clear Yh Y)));all_goals first|apply Xi|omega))
     rename_i g28 g'
     refine ⟨(i + 1, out ++ [q], g'), ?_, ⟨by simp only; omega, by simp [ho], ?_, ?_⟩, by simp only; omega⟩
     ·(refine ql ?_ ?_ <;> simp[go_sem])
     ·simp only [e]
      exact hsn q rfl
     ·intro _
      have hh' := hh (by omega)
      cases out with
      | nil => simp at ho; omega
      | cons a b => simpa using hh'
  ·refine qp ?_
   simp only [go_sem]
   refine hK3 _ ?_; clear hK3
   have hie : i = ps.length := by omega
   subst hie
   rw [List.take_length] at hs
   have hpl : 0 < ps.length := List.length_pos_iff.2 hdn
   have hg := hgood out h2' hs (hh hpl)
   have e1 := hof out hg
   have e2 := hsome out hg
   subst e1 e2
   (refine qc fun Y Yh=>?_;simp[go_sem];apply Yh;clear Yh Y;apply Xi)
   (refine qi ?_;simp[go_sem])
theorem words_take {l : List Seg} {i : Nat} {x : Seg} (h : (l.take i).any (fun s => decide (s.1 ≠ [])) = false) (hx : l[i]? = some x) :
  (x.1 ≠ [] → wordsV l = i) ∧ (x.1 = [] → (l.take (i + 1)).any (fun s => decide (s.1 ≠ [])) = false) := by
 refine ⟨fun q => ?_, fun q => take_anyG h hx (by simp [q])⟩
 have e := fIx_at h hx (p := fun s => decide (s.1 ≠ [])) (by simp [q])
 have := (words_ix l).1 (by omega)
 omega
theorem words_all {l : List Seg} (h : l.any (fun s => decide (s.1 ≠ [])) = false) : wordsV l = l.length := by
 have e := fIx_none (p := fun s : Seg => decide (s.1 ≠ [])) h
 exact (words_ix l).2 (by omega)
theorem jO (l : List Seg) (hl : l.length ≤ 1000000) : PCall Tryz.prog 285 [dGs l] fun r => r = dI (wordsV l) := by 
 refine qw Tryz.func285 rfl rfl Tryz.ntmps285 (rs := [.tmp 2]) (tys := [3]) rfl rfl (by simp) ?_
 have hw := fun i x => @words_take l i x
 have ha := @words_all l
 generalize wordsV l = w at *
 (refine qc fun Y Yh=>?_;simp[go_sem];apply Yh;clear Yh Y;apply Xi)
 refine qf fun K1 hK1 => ?_
 (refine qc fun Y Yh=>?_;simp[go_sem];apply Yh;clear Yh Y;apply Xi)
 refine qj ?_
 refine qx (σ := Nat) (fun i => ⟨[(0, dGs l), (3, dI i)], []⟩) (fun i => i ≤ l.length ∧ (l.take i).any (fun s => decide (s.1 ≠ [])) = false) (fun i => l.length - i) 0 ?_ ?_ ?_
 ·(refine ql ?_ ?_ <;> simp[go_sem])
 ·exact ⟨by omega, by simp⟩
 rintro i ⟨hi, hany⟩
 refine qf fun K2 hK2 => ?_
 (refine qc fun Y Yh=>?_;simp[go_sem];apply Yh;clear Yh Y;apply Xi)
 (refine qg fun T F hT hF=>?_;simp[go_sem];refine BR.intro (fun h3=>hT ?_) (fun h3=>hF ?_);all_goals clear hT hF T F;try simp at h3) 
 ·refine qh ?_
  refine hK2 _ ?_; clear hK2
  obtain ⟨x, hx⟩ : ∃ x, l[i]? = some x := ⟨_, List.getElem?_eq_getElem (by omega)⟩
  have hw1 := hw i x hany hx
  refine qf fun K4 hK4 => ?_
  refine qj ?_
  (refine qc fun Y Yh=>?_;simp[go_sem, hx];apply Yh;clear Yh Y;apply Xi)
  (refine qg fun T F hT hF=>?_;simp[go_sem];refine BR.intro (fun h5=>hT ?_) (fun h5=>hF ?_);all_goals clear hT hF T F;try simp at h5) 
  ·(refine qc fun Y Yh=>?_;simp[go_sem];apply Yh;clear Yh Y;apply Xi)
   (refine qi ?_;simp[go_sem])
   rw [hw1.1 h5]
  ·refine qh ?_
   refine hK4 _ ?_; clear hK4
   (refine qB fun Y Yh=>?_;simp[go_sem];((repeat' (first|apply And.intro|(apply Yh;clear Yh Y)));all_goals first|apply Xi|omega))
   refine ⟨i + 1, ?_, ⟨by omega, hw1.2 h5⟩, by omega⟩
   (refine ql ?_ ?_ <;> simp[go_sem])
 ·refine qp ?_
  simp only [go_sem]
  refine hK1 _ ?_; clear hK1
  have hie : i = l.length := by omega
  subst hie
  rw [List.take_length] at hany
  rw [ha hany]
  (refine qc fun Y Yh=>?_;simp[go_sem];apply Yh;clear Yh Y;apply Xi)
  (refine qi ?_;simp[go_sem])
end Go.Proofs.YteekfnhhlcmcgaaGreatDoor
namespace Go.Ver
open Go.Lib Go.Wh
/-! ref's two -/
def sgV (a b : Bool) : Int := if a = true then -1 else if b = true then 1 else 0
theorem bl_lt : ∀ x y : List UInt8, Op.bytesLess x y = decide (compareBytes x y < 0)
 | [], [] => by simp [Op.bytesLess, compareBytes]
 | [], _ :: _ => by simp [Op.bytesLess, compareBytes]
 | _ :: _, [] => by simp [Op.bytesLess, compareBytes]
 | a :: x, b :: y => by
  have ih := bl_lt x y
  unfold Op.bytesLess compareBytes
  by_cases h : a < b
  ·simp [h]
  ·by_cases h2 : b < a
   ·have h3 : ¬ a = b := fun e => by subst e; exact absurd h2 h
    simp [h, h2, h3]
   ·have h3 : a = b := by
     apply UInt8.toNat_inj.1
     rw [UInt8.lt_iff_toNat_lt] at *; omega
    simp [h3, ih]
theorem bl_gt (x y : List UInt8) : Op.bytesLess y x = decide (0 < compareBytes x y) := by
 rw [bl_lt, cb_neg y x]; congr 1; apply propext; omega
theorem ZT {x y : Seg} (h : ¬ (x.1 = [] ↔ y.1 = [])) : sgV (decide (x.1 ≠ [])) (decide (y.1 ≠ [])) = seg2 x y := by
 unfold sgV seg2
 by_cases h1 : x.1 = [] <;> by_cases h2 : y.1 = [] <;> simp [h1, h2] at h ⊢
theorem Jp {x y : Seg} (h : x.1 ≠ []) (h2 : y.1 ≠ []) (hx : x.1 ≠ [] → x.2 = 0) (hy : y.1 ≠ [] → y.2 = 0) : sgV (Op.bytesLess x.1 y.1) (Op.bytesLess y.1 x.1) = seg2 x y := by
 unfold sgV seg2
 rw [bl_lt, bl_gt, hx h, hy h2]
 simp only [h, h2, and_false, false_and, if_false, ne_eq, not_false_eq_true, not_true_eq_false]
 rcases cb_val x.1 y.1 with e | e | e <;> simp [e, compareInt]
theorem JP {x y : Seg} (h : x.1 = []) (h2 : y.1 = []) : sgV (decide (x.2 < y.2)) (decide (y.2 < x.2)) = seg2 x y := by
 unfold sgV seg2
 rw [h, h2]
 simp only [ne_eq, not_true_eq_false, false_and, and_false, if_false, compareBytes, compareInt]
 by_cases h3 : x.2 < y.2
 ·simp [h3]
 ·by_cases h4 : y.2 < x.2 <;> simp [h3, h4]
end Go.Ver
namespace Go.Proofs.YteekfnhhlcmcgaaGreatDoor
open Go.Eng Go.Wh Go.Ver
set_option maxRecDepth 20000
attribute [local irreducible] AG CallA CallT AWp PCall ACall AgC
theorem xn (a b : Bool) : PCall Tryz.prog 190 [dB a, dB b] fun r => r = dI (sgV a b) := by 
 refine qw Tryz.func190 rfl rfl Tryz.ntmps190 (rs := [.tmp 4]) (tys := [3]) rfl rfl (by simp) ?_
 unfold sgV
 (refine qc fun Y Yh=>?_;simp[go_sem];apply Yh;clear Yh Y;apply Xi)
 refine qf fun K1 hK1 => ?_
 (refine qc fun Y Yh=>?_;simp[go_sem];apply Yh;clear Yh Y;apply Xi)
 (refine qg fun T F hT hF=>?_;simp[go_sem];refine BR.intro (fun h2=>hT ?_) (fun h2=>hF ?_);all_goals clear hT hF T F;try simp at h2) 
 ·(refine qc fun Y Yh=>?_;simp[go_sem];apply Yh;clear Yh Y;apply Xi)
  (refine qi ?_;simp[go_sem, h2])
 ·refine qh ?_
  refine hK1 _ ?_; clear hK1
  refine qf fun K3 hK3 => ?_
  (refine qc fun Y Yh=>?_;simp[go_sem];apply Yh;clear Yh Y;apply Xi)
  (refine qg fun T F hT hF=>?_;simp[go_sem];refine BR.intro (fun h4=>hT ?_) (fun h4=>hF ?_);all_goals clear hT hF T F;try simp at h4) 
  ·(refine qc fun Y Yh=>?_;simp[go_sem];apply Yh;clear Yh Y;apply Xi)
   (refine qi ?_;simp[go_sem, h2, h4])
  ·refine qh ?_
   refine hK3 _ ?_; clear hK3
   (refine qc fun Y Yh=>?_;simp[go_sem];apply Yh;clear Yh Y;apply Xi)
   (refine qi ?_;simp[go_sem, h2, h4])
def wz (x : Seg) : Prop := x.1 ≠ [] → x.2 = 0
theorem ZY (x y : Seg) (hx : wz x) (hy : wz y) : PCall Tryz.prog 153 [dG x, dG y] fun r => r = dI (seg2 x y) := by 
 refine qw Tryz.func153 rfl rfl Tryz.ntmps153 (rs := [.tmp 4]) (tys := [3]) rfl rfl (by simp) ?_
 have t1 := @ZT x y
 have t2 := fun h h2 => @Jp x y h h2 hx hy
 have t3 := @JP x y
 generalize seg2 x y = res at *
 (refine qc fun Y Yh=>?_;simp[go_sem];intro _;intro _;apply Yh;clear Yh Y;apply Xi)
 refine qf fun K1 hK1 => ?_
 (refine qc fun Y Yh=>?_;simp[go_sem];apply Yh;clear Yh Y;apply Xi)
 (refine qg fun T F hT hF=>?_;simp[go_sem];refine BR.intro (fun h2=>hT ?_) (fun h2=>hF ?_);all_goals clear hT hF T F;try simp at h2) 
 ·(refine qc fun Y Yh=>?_;simp[go_sem])
  ((try refine Xj ?_);refine qm (.inl ⟨rfl,rfl⟩) (by simp[go_sem]) ?_;intro args ha;simp[go_sem] at ha;subst ha;refine ⟨_, (xn _ _), ?_⟩;rintro _ rfl;simp[go_sem];apply Yh;clear Yh Y;apply Xi)
  (refine qi ?_;simp[go_sem])
  have e1 : x.1.isEmpty = decide (x.1 = []) := by cases x.1 <;> simp
  have e2 : y.1.isEmpty = decide (y.1 = []) := by cases y.1 <;> simp
  rw [e1, e2] at h2 ⊢
  simpa using t1 (by simpa using h2)
 ·refine qh ?_
  refine hK1 _ ?_; clear hK1
  refine qf fun K3 hK3 => ?_
  (refine qc fun Y Yh=>?_;simp[go_sem];apply Yh;clear Yh Y;apply Xi)
  (refine qg fun T F hT hF=>?_;simp[go_sem];refine BR.intro (fun h4=>hT ?_) (fun h4=>hF ?_);all_goals clear hT hF T F;try simp at h4) 
  ·(refine qc fun Y Yh=>?_;simp[go_sem])
   ((try refine Xj ?_);refine qm (.inl ⟨rfl,rfl⟩) (by simp[go_sem]) ?_;intro args ha;simp[go_sem] at ha;subst ha;refine ⟨_, (xn _ _), ?_⟩;rintro _ rfl;simp[go_sem];apply Yh;clear Yh Y;apply Xi)
   (refine qi ?_;simp[go_sem])
   refine t2 h4 (fun q => h4 ?_)
   rw [q] at h2
   simpa using h2
  ·refine qh ?_
   refine hK3 _ ?_; clear hK3
   (refine qc fun Y Yh=>?_;simp[go_sem])
   ((try refine Xj ?_);refine qm (.inl ⟨rfl,rfl⟩) (by simp[go_sem]) ?_;intro args ha;simp[go_sem] at ha;subst ha;refine ⟨_, (xn _ _), ?_⟩;rintro _ rfl;simp[go_sem];apply Yh;clear Yh Y;apply Xi)
   (refine qi ?_;simp[go_sem])
   refine t3 h4 ?_
   rw [h4] at h2
   simpa using h2.symm
theorem wz_at {a : List Seg} (h : ∀ x ∈ a, wz x) (i : Nat) : wz (atV a i) := by
 unfold atV
 cases e : a[i]? with
 | none => intro q; exact absurd rfl q
 | some x => exact h x (List.mem_of_getElem? e)
theorem wz_ok {l : List Seg} (h : VOk l) : ∀ x ∈ l, wz x := fun x hx q => by
 rcases h.2.2 x hx with ⟨_, _, _, q⟩ | ⟨q1, _⟩
 ·exact q
 ·exact absurd q1 q
set_option maxHeartbeats 8000000 in
theorem jP (a b : List Seg) (ha : a.length ≤ 1000000) (hb : b.length ≤ 1000000) (wa : ∀ x ∈ a, wz x) (wb : ∀ x ∈ b, wz x) : PCall Tryz.prog 111 [dGs a, dGs b] fun r => r = dI (cmpV a b) := by 
 refine qw Tryz.func111 rfl rfl Tryz.ntmps111 (rs := [.tmp 4]) (tys := [3]) rfl rfl (by simp) ?_
 have hN : cmpN (max a.length b.length - 0) (a.drop 0) (b.drop 0) = cmpV a b := rfl
 have hna : ∀ i, ¬ i < a.length → atV a i = z0s := fun i h => at_past (by omega)
 have hnb : ∀ i, ¬ i < b.length → atV b i = z0s := fun i h => at_past (by omega)
 have hwa := wz_at wa
 have hwb := wz_at wb
 have hstep := fun i => @cmpN_drop a b (max a.length b.length) i
 have hle1 : a.length ≤ max a.length b.length := by omega
 have hle2 : b.length ≤ max a.length b.length := by omega
 have hle4 : max a.length b.length ≤ a.length ∨ max a.length b.length ≤ b.length := by omega
 have hle3 : max a.length b.length ≤ 1000000 := by omega
 have hz : ∀ i, max a.length b.length ≤ i → cmpN (max a.length b.length - i) (a.drop i) (b.drop i) = 0 := fun i h => by
  rw [Nat.sub_eq_zero_of_le h]; rfl
 generalize cmpV a b = res at *
 generalize max a.length b.length = n at *
 (refine qc fun Y Yh=>?_;simp[go_sem];apply Yh;clear Yh Y;apply Xi)
 refine qf fun K1 hK1 => ?_
 (refine qc fun Y Yh=>?_;simp[go_sem];apply Yh;clear Yh Y;apply Xi)
 refine qj ?_
 refine qx (σ := Nat) (fun i => ⟨[(0, dGs a), (1, dGs b), (5, dI i)], []⟩) (fun i => i ≤ n ∧ cmpN (n - i) (a.drop i) (b.drop i) = res) (fun i => n - i) 0 ?_ ?_ ?_
 ·(refine ql ?_ ?_ <;> simp[go_sem])
 ·exact ⟨by omega, hN⟩
 rintro i ⟨hi, hc⟩
 refine qf fun K2 hK2 => ?_
 have body : (i < a.length ∨ i < b.length) → ∀ S', Cov S' ⟨[(0, dGs a), (1, dGs b), (5, dI i)], []⟩ → K2 S' := fun hor S' hS => by
  refine hK2 _ ?_
  refine qN hS ?_; clear hS
  have hst := hstep i hc (by omega)
  refine qf fun K4 hK4 => ?_
  refine qj ?_
  (refine qc fun Y Yh=>?_;simp[go_sem];intro _;intro _;apply Yh;clear Yh Y;apply Xi)
  rename_i g6 g7
  refine qf fun K5 hK5 => ?_
  have tl5 : ∀ S', Cov S' ⟨[(0, dGs a), (1, dGs b), (5, dI i), (6, .ptr 6 g6 0), (7, .ptr 7 g7 0)], [(6, g6, .box (cG (atV a i))), (7, g7, .box [dS [], dI 0])]⟩ → K5 S' := fun S' hS => by
   refine hK5 _ ?_; clear hK5
   refine qN hS ?_; clear hS
   refine qf fun K6 hK6 => ?_
   have tl6 : ∀ S', Cov S' ⟨[(0, dGs a), (1, dGs b), (5, dI i), (6, .ptr 6 g6 0), (7, .ptr 7 g7 0)], [(6, g6, .box (cG (atV a i))), (7, g7, .box (cG (atV b i)))]⟩ → K6 S' := fun S' hS => by
    refine hK6 _ ?_
    refine qN hS ?_; clear hS
    have W1 := hwa i
    have W2 := hwb i
    generalize atV a i = x at *
    generalize atV b i = y at *
    (refine qc fun Y Yh=>?_;simp[go_sem])
    ((try refine Xj ?_);refine qm (.inl ⟨rfl,rfl⟩) (by simp[go_sem]) ?_;intro args ha;simp[go_sem] at ha;subst ha;refine ⟨_, (ZY x y W1 W2), ?_⟩;rintro _ rfl;simp[go_sem];apply Yh;clear Yh Y;apply Xi)
    (refine qc fun Y Yh=>?_;simp[go_sem];apply Yh;clear Yh Y;apply Xi)
    generalize seg2 x y = u at *
    (refine qg fun T F hT hF=>?_;simp[go_sem];refine BR.intro (fun h7=>hT ?_) (fun h7=>hF ?_);all_goals clear hT hF T F;try simp at h7) 
    ·(refine qc fun Y Yh=>?_;simp[go_sem];apply Yh;clear Yh Y;apply Xi)
     (refine qi ?_;simp[go_sem])
     exact hst.1 (by simpa using h7)
    ·refine qh ?_
     refine hK4 _ ?_; clear hK4
     (refine qB fun Y Yh=>?_;simp[go_sem];((repeat' (first|apply And.intro|(apply Yh;clear Yh Y)));all_goals first|apply Xi|omega))
     refine ⟨i + 1, ?_, ⟨by omega, hst.2 (by simpa using h7)⟩, by omega⟩
     (refine ql ?_ ?_ <;> simp[go_sem])
   (refine qc fun Y Yh=>?_;simp[go_sem];apply Yh;clear Yh Y;apply Xi)
   (refine qg fun T F hT hF=>?_;simp[go_sem];refine BR.intro (fun h8=>hT ?_) (fun h8=>hF ?_);all_goals clear hT hF T F;try simp at h8) 
   ·obtain ⟨y, hy⟩ : ∃ y, b[i]? = some y := ⟨_, List.getElem?_eq_getElem (by omega)⟩
    have ey : atV b i = y := by unfold atV; rw [hy]; rfl
    (refine qB fun Y Yh=>?_;simp[go_sem, hy];apply Yh;clear Yh Y;apply Xi)
    refine tl6 _ ?_
    rw [ey]
    (refine ql ?_ ?_ <;> simp[go_sem])
   ·refine qh ?_
    refine tl6 _ ?_
    rw [hnb i (by omega)]
    (refine ql ?_ ?_ <;> simp[go_sem])
  clear hK5
  (refine qc fun Y Yh=>?_;simp[go_sem];apply Yh;clear Yh Y;apply Xi)
  (refine qg fun T F hT hF=>?_;simp[go_sem];refine BR.intro (fun h9=>hT ?_) (fun h9=>hF ?_);all_goals clear hT hF T F;try simp at h9) 
  ·obtain ⟨x, hx⟩ : ∃ x, a[i]? = some x := ⟨_, List.getElem?_eq_getElem (by omega)⟩
   have ex : atV a i = x := by unfold atV; rw [hx]; rfl
   (refine qB fun Y Yh=>?_;simp[go_sem, hx];apply Yh;clear Yh Y;apply Xi)
   refine tl5 _ ?_
   rw [ex]
   (refine ql ?_ ?_ <;> simp[go_sem])
  ·refine qh ?_
   refine tl5 _ ?_
   rw [hna i (by omega)]
   (refine ql ?_ ?_ <;> simp[go_sem])
 by_cases h1 : i < a.length
 ·have h1' : (i : Int) < a.length := by omega
  (refine qc fun Y Yh=>?_;simp[go_sem, h1'];((repeat' (first|(refine qG (by simp[go_sem, undef, h1']) (by simp[go_sem]) ?_;simp[go_sem, h1'])|intro _|apply And.intro|(apply Yh;clear Yh Y)));all_goals first|apply Xi|omega|assumption|skip))
  (refine qg fun T F hT hF=>?_;simp[go_sem];refine hT ?_;clear hT hF T F)
  refine qh ?_
  refine body (.inl h1) _ ?_
  (refine ql ?_ ?_ <;> simp[go_sem])
 ·have h1' : ¬ (i : Int) < a.length := by omega
  (refine qc fun Y Yh=>?_;simp[go_sem, h1'];((repeat' (first|(refine qH ?_;simp[go_sem, h1'])|(apply Yh;clear Yh Y)));all_goals apply Xi))
  (refine qg fun T F hT hF=>?_;simp[go_sem];refine BR.intro (fun h3=>hT ?_) (fun h3=>hF ?_);all_goals clear hT hF T F;try simp at h3)
  ·refine qh ?_
   refine body (.inr (by omega)) _ ?_
   (refine ql ?_ ?_ <;> simp[go_sem])
  ·refine qp ?_
   simp only [go_sem]
   refine hK1 _ ?_; clear hK1
   (refine qc fun Y Yh=>?_;simp[go_sem];apply Yh;clear Yh Y;apply Xi)
   (refine qi ?_;simp[go_sem])
   rw [← hc, hz i (by omega)]
end Go.Proofs.YteekfnhhlcmcgaaGreatDoor
namespace Go.Ver
open Go.Lib Go.Wh
theorem cut_miss {p o v : List UInt8} (h : cut p [32] = (o, v, false)) : v = [] ∧ cndV p = none := by
 refine ⟨?_, by rw [cut_cnd h]; simp⟩
 have := cut_cutS p
 rw [h] at this
 cases hc : cutS p with
 | none => rw [hc] at this; simp at this; exact this.2
 | some q => rw [hc] at this; simp at this
theorem J4 : readV [] = none := by decide
theorem words_eq (l : List Seg) : decide (wordsV l = l.length) = !preV l := by
 have h1 := jY l
 have h2 := zF l
 rw [← h1]
 by_cases h : wordsV l < l.length
 ·have : ¬ wordsV l = l.length := by omega
  simp [h, this]
 ·have : wordsV l = l.length := by omega
  simp [h, this]
theorem any_take {α : Type} {p : α → Bool} {l : List α} {i : Nat} {x : α} (h : l[i]? = some x) : (l.take (i + 1)).any p = ((l.take i).any p || p x) := by
 rw [List.take_add_one, h, List.any_append]; simp
end Go.Ver
