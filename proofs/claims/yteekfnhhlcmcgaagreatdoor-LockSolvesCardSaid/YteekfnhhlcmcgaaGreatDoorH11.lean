/- Part of a proof: see the last text. -/
import Derived.Test.YteekfnhhlcmcgaaGreatDoorH10
import Derived.Test.YteekfnhhlcmcgaaGreatDoorH08
import Derived.Test.YteekfnhhlcmcgaaGreatDoorH16
import Derived.Lib.ItoaLen
import Derived.Test.YteekfnhhlcmcgaaGreatDoorH05
import Derived.Lib.SlicesCompact
import Derived.Sort.Walk0
import Derived.Test.YteekfnhhlcmcgaaGreatDoorH07
import Derived.Lib.OwnBridge
import Derived.Sort.OwnSorted
import Derived.Sort.Grow
set_option linter.unusedVariables false
set_option linter.unusedSimpArgs false
namespace Go.Proofs.YteekfnhhlcmcgaaGreatDoor
open Go.Eng Go.Wh Go.Ver Go.RowKit Go.Lk
set_option maxRecDepth 20000
attribute [local irreducible] AG CallA CallT AWp PCall ACall AgC
theorem QD {α : Type} {f : FuncId} {args : List D} {p : α → Prop} {d : α → D} (h : PCall Tryz.prog f args fun r => ∃ x, p x ∧ Weak r (d x)) : PCall Tryz.prog f args fun r => ∃ x, p x ∧ r = d x := by
 unfold PCall at h ⊢
 refine ⟨h.1, fun C w us a b c => (h.2 C w us a b c).mono ?_⟩
 rintro e w' ⟨u, r, C', h1, ⟨x, hx, hw⟩, h3, h4⟩
 exact ⟨u, d x, C', h1, ⟨x, hx, rfl⟩, hw _ _ _ h3, h4⟩
theorem lkOk_of {L : Lck} (h : SzL L) : LkOk L := by
 obtain ⟨a, b, c⟩ := h
 exact ⟨a.1, b.1, c.1, fun x hx => a.2 x hx, fun r hr => ⟨(b.2 r hr).1, fun x hx => (b.2 r hr).2 x hx⟩, fun x hx => c.2 x hx⟩
theorem X0 {s : Src} {w : List Prs} (h : GrOk s w) : s.Pairwise fun g h => Op.bytesLess g.1 h.1 = true := by
 have h1 : (s.map (·.1)).Pairwise fun a b => Op.bytesLess a b = true := by rw [h.nm]; simp [gnmL]; decide
 exact List.pairwise_map.1 h1
theorem weak_nils : ∀ n : Nat, WeakLL (List.replicate n [D.v (.slice none 0 0)]) ((List.replicate n ([] : List Prs)).map fun n => [dPs n])
 | 0 => trivial
 | n + 1 => ⟨⟨Weak.nil 2, trivial⟩, weak_nils n⟩
def nilN (N : List (List Prs)) (j : Nat) : List (List D) := List.replicate j [D.v (.slice none 0 0)] ++ (N.drop j).map fun n => [dPs n]
theorem nilN_len {N : List (List Prs)} {j : Nat} (h : j ≤ N.length) : (nilN N j).length = N.length := by unfold nilN; simp; omega
theorem nilN_step {N : List (List Prs)} {j : Nat} (h : j < N.length) : (nilN N j).set j [D.v (.slice none 0 0)] = nilN N (j + 1) := by
 unfold nilN
 rw [drop_cons (List.getElem?_eq_getElem h), List.map_cons]
 rw [List.set_append_right _ _ (by simp)]
 simp only [List.length_replicate, Nat.sub_self, List.set_cons_zero]
 rw [List.replicate_succ', List.append_assoc]
 rfl
theorem nilN_zero (N : List (List Prs)) : nilN N 0 = N.map fun n => [dPs n] := rfl
theorem nilN_end (N : List (List Prs)) : nilN N N.length = List.replicate N.length [D.v (.slice none 0 0)] := by unfold nilN; simp
theorem nilN_at {N : List (List Prs)} {j : Nat} (h : j < N.length) : ∃ y, (nilN N j)[j]? = some [y] := by
 unfold nilN
 refine ⟨dPs N[j], ?_⟩
 rw [List.getElem?_append_right (by simp), drop_cons (List.getElem?_eq_getElem h)]
 simp
 exact ⟨_, List.getElem?_eq_getElem h, rfl⟩
set_option maxHeartbeats 16000000 in
theorem grownW (l : List Int) (hl : l.length ≤ 9223372036854775807) : PCall Tryz.prog 22 [dIs l] fun r => ∃ L, lockV L = true ∧ Weak r (dLk L) := by 
 refine qw Tryz.func22 rfl rfl Tryz.ntmps22 (rs := [.cell 2 61]) (tys := [61]) rfl rfl (by simp) ?_
 have GR := kF l hl
 (refine qc fun Y Yh=>?_;simp[go_sem];intro _;apply Yh;clear Yh Y;apply Xi)
 rename_i g2
 (refine qc fun Y Yh=>?_;simp[go_sem])
 ((try refine Xj ?_);refine qm (.inl ⟨rfl,rfl⟩) (by simp[go_sem]) ?_;intro args ha;simp[go_sem] at ha;subst ha;refine ⟨_, GR, ?_⟩;rintro _ ⟨s, w, hgr, rfl⟩;simp[go_sem];intro _;apply Yh;clear Yh Y;apply Xi)
 rename_i g3
 have hsu := Qh hgr
 have hsz := zY hsu
 have hwz := xU hgr.wi (by decide)
 have hs5 : s.length = 5 := by have := congrArg List.length hgr.nm; simpa [gnmL] using this
 have OF := xA s w 500 hsz hwz
 have hok := @Qa s w 500
 generalize ofV s w 500 = q at *
 obtain ⟨L, e⟩ := q
 simp only at OF hok
 (refine qc fun Y Yh=>?_;simp[go_sem])
 ((try refine Xj ?_);refine qm (.inl ⟨rfl,rfl⟩) (by simp[go_sem]) ?_;intro args ha;simp[go_sem] at ha;subst ha;refine ⟨_, OF, ?_⟩;rintro _ rfl;simp[go_sem];intro _;apply Yh;clear Yh Y;apply Xi)
 rename_i g5
 refine qf fun K1 hK1 => ?_
 have tl1 : ∀ S', Cov S' ⟨[(2, .ptr 2 g2 0), (3, .ptr 3 g3 0)], [(2, (g2, .box [.v (.slice none 0 0), .v (.slice none 0 0), .v (.slice none 0 0)])), (3, (g3, .box [dGms s]))]⟩ → K1 S' := fun S' hS => by
  refine hK1 _ ?_; clear hK1
  refine qN hS ?_; clear hS
  have hst := fun i g => @fst_step s i g
  have hfe : fstP (s.take s.length) = fstP s ∧ fstN (s.take s.length) = fstN s := by rw [List.take_length]; exact ⟨rfl, rfl⟩
  have hfl := fun i => fst_len (s.take i)
  have hf5 := fun i => fst_le (s.take i)
  have hlk := fst_lock hsu (X0 hgr)
  have CK := jG (fstP s, fstN s, []) (lkOk_of (fst_sz hsu))
  have hNl := fst_len s
  have hPl := fst_le s
  obtain ⟨FP, hFP⟩ : ∃ F : Nat → List Prs, ∀ i, fstP (s.take i) = F i := ⟨_, fun _ => rfl⟩
  obtain ⟨FN, hFN⟩ : ∃ F : Nat → List (List Prs), ∀ i, fstN (s.take i) = F i := ⟨_, fun _ => rfl⟩
  have hP0 : FP 0 = [] := by rw [← hFP]; rfl
  have hN0 : FN 0 = [] := by rw [← hFN]; rfl
  simp only [hFP, hFN] at hst hfe hfl hf5
  clear hFP hFN
  generalize fstP s = P at *
  generalize fstN s = N at *
  (refine qc fun Y Yh=>?_;simp[go_sem];intro _;apply Yh;clear Yh Y;apply Xi)
  rename_i g7
  refine zo 900003 95 2 0 (sb := 7) rfl rfl (by decide) fun gp => ?_
  refine zo 900004 26 1 1 (sb := 7) rfl rfl (by decide) fun gn => ?_
  simp only [List.set, go_sem]
  refine qf fun K3 hK3 => ?_
  (refine qc fun Y Yh=>?_;simp[go_sem];apply Yh;clear Yh Y;apply Xi)
  refine qj ?_
  refine qx (σ := Nat × Nat × Nat) (fun x => ⟨[(2, .ptr 2 g2 0), (3, .ptr 3 g3 0), (7, .ptr 7 g7 0), (8, dI x.1)], [(2, (g2, .box [.v (.slice none 0 0), .v (.slice none 0 0), .v (.slice none 0 0)])), (3, (g3, .box [dGms s])), (7, (g7, .box [.own 900003 x.2.1, .own 900004 x.2.2, .v (.slice none 0 0)])), (900003, (x.2.1, .row 95 2 ((FP x.1).map cP))), (900004, (x.2.2, .row 26 1 ((FN x.1).map fun n => [dPs n])))]⟩) (fun x => x.1 ≤ s.length) (fun x => s.length - x.1) (0, gp, gn) ?_ ?_ ?_
  ·(refine ql ?_ ?_ <;> simp[go_sem, hP0, hN0])
  ·simp
  rintro ⟨i, gp, gn⟩ hi
  simp only at hi
  refine qf fun K4 hK4 => ?_
  (refine qc fun Y Yh=>?_;simp[go_sem];apply Yh;clear Yh Y;apply Xi)
  (refine qg fun T F hT hF=>?_;simp[go_sem];refine BR.intro (fun h5=>hT ?_) (fun h5=>hF ?_);all_goals clear hT hF T F;try simp at h5)
  ·refine qh ?_
   refine hK4 _ ?_; clear hK4
   obtain ⟨x, hx⟩ : ∃ x, s[i]? = some x := ⟨_, List.getElem?_eq_getElem (by omega)⟩
   obtain ⟨hst1, hst2⟩ := hst i x hx
   have hfl1 := hfl i
   have hf51 := hf5 i
   have hti : (s.take i).length = i := by rw [List.length_take]; omega
   rw [hti] at hf51
   generalize FP i = P0 at *
   generalize FN i = N0 at *
   refine zy (α := Nat × Nat) (fun z => ⟨[(2, .ptr 2 g2 0), (3, .ptr 3 g3 0), (7, .ptr 7 g7 0), (8, dI i)], [(2, (g2, .box [.v (.slice none 0 0), .v (.slice none 0 0), .v (.slice none 0 0)])), (3, (g3, .box [dGms s])), (7, (g7, .box [.own 900003 z.1, .own 900004 z.2, .v (.slice none 0 0)])), (900003, (z.1, .row 95 2 ((FP (i + 1)).map cP))), (900004, (z.2, .row 26 1 ((FN (i + 1)).map fun n => [dPs n])))]⟩) (fun K6 hK6 hM6 => ?_) (fun z => ?_)
   rotate_left
   ·obtain ⟨gp', gn'⟩ := z
    (refine qB fun Y Yh=>?_;simp[go_sem];((repeat' (first|apply And.intro|(apply Yh;clear Yh Y)));all_goals first|apply Xi|omega))
    refine ⟨(i + 1, gp', gn'), ?_, by simp only; omega, by simp only; omega⟩
    (refine ql ?_ ?_ <;> simp[go_sem])
   refine qj ?_
   obtain ⟨nm, vs⟩ := x
   cases vs with
   | nil =>
    simp only [List.head?_nil, List.append_nil] at hst1 hst2
    (refine qc fun Y Yh=>?_;simp[go_sem, hx];apply Yh;clear Yh Y;apply Xi)
    (refine qg fun T F hT hF=>?_;simp[go_sem];refine hF ?_;clear hT hF T F)
    refine qh ?_
    refine hK6 _ ?_
    refine hM6 (gp, gn) _ ?_
    rw [hst1, hst2]
    (refine ql ?_ ?_ <;> simp[go_sem])
   | cons v vs =>
    obtain ⟨num, nds⟩ := v
    simp only [List.head?_cons] at hst1 hst2
    have hpos : (0 : Int) < (vs.length : Int) + 1 := by omega
    (refine qc fun Y Yh=>?_;simp[go_sem, hx, hpos];apply Yh;clear Yh Y;apply Xi)
    (refine qg fun T F hT hF=>?_;simp[go_sem, hpos];refine hT ?_;clear hT hF T F)
    (refine qc fun Y Yh=>?_;simp[go_sem, hx];intro _;apply Yh;clear Yh Y;apply Xi)
    rename_i g9
    ((refine qE (.qs [0, 2, 4, 8, 1, 3, 5, 6, 7, 9, 10] (.kp 11 (.one 12 (.qs [13] (.one 14 (.nil)))))) (by kernel_rfl) ?_ ?_ ?_ ?_);kernel_rfl;exact (by decide +kernel);kernel_rfl;intro Y Yh;((repeat' (first|refine qy ?_|(refine qo fun Y Yh=>?_;simp[go_sem, hx])|(refine qC fun Y Yh=>?_;simp[go_sem, hx])|intro _|apply And.intro|(apply Yh;clear Yh Y)));all_goals first|apply Xi|omega))
    (refine qB fun Y Yh=>?_;simp[go_sem];((repeat' (first|intro _|apply And.intro|(apply Yh;clear Yh Y)));all_goals first|apply Xi|omega))
    rename_i a1 a2 a3 a4
    refine hK6 _ ?_
    refine hM6 (a2, a4) _ ?_
    rw [hst1, hst2]
    (refine ql ?_ ?_ <;> simp[go_sem])
  ·refine qp ?_
   simp only [go_sem]
   refine hK3 _ ?_; clear hK3
   have hie : i = s.length := by omega
   subst hie
   rw [hfe.1, hfe.2]
   clear hst hfe hfl hf5 hP0 hN0
   refine qf fun K8 hK8 => ?_
   (refine qc fun Y Yh=>?_;simp[go_sem])
   ((try refine Xj ?_);refine jk (.inl ⟨rfl,rfl⟩) ?_;intro args ha;simp[go_sem] at ha;subst ha;refine ⟨_, CK, ?_⟩;rintro _ rfl;refine ⟨rfl, ?_⟩;simp[go_sem];apply Yh;clear Yh Y;apply Xi)
   by_cases hv : lockV (P, N, []) = true
   ·rw [hv]
    (refine qg fun T F hT hF=>?_;simp[go_sem];refine hF ?_;clear hT hF T F)
    refine qh ?_
    refine hK8 _ ?_; clear hK8
    refine zq 900003 7 0 rfl rfl (by decide) rfl ?_
    simp only [go_sem, List.set]
    refine zq 900004 7 1 rfl rfl (by decide) rfl ?_
    simp only [go_sem, List.set]
    (refine qc fun Y Yh=>?_;simp[go_sem];apply Yh;clear Yh Y;apply Xi)
    (refine qi ?_;simp[go_sem])
    exact ⟨P, N, [], hv, Weak.agg ⟨Weak.refl _, Weak.refl _, Weak.refl _, trivial⟩⟩
   ·have hvf : lockV (P, N, []) = false := by simpa using hv
    rw [hvf]
    (refine qg fun T F hT hF=>?_;simp[go_sem];refine hT ?_;clear hT hF T F)
    (refine qc fun Y Yh=>?_;simp[go_sem];apply Yh;clear Yh Y;apply Xi)
    refine qj ?_
    refine qx (σ := Nat) (fun j => ⟨[(2, .ptr 2 g2 0), (7, .ptr 7 g7 0), (10, dI j)], [(2, (g2, .box [.v (.slice none 0 0), .v (.slice none 0 0), .v (.slice none 0 0)])), (7, (g7, .box [.own 900003 gp, .own 900004 gn, .v (.slice none 0 0)])), (900003, (gp, .row 95 2 (P.map cP))), (900004, (gn, .row 26 1 (nilN N j)))]⟩) (fun j => j ≤ N.length) (fun j => N.length - j) 0 ?_ ?_ ?_
    ·(refine ql ?_ ?_ <;> simp[go_sem, nilN_zero])
    ·simp
    intro j hj
    have hlen := nilN_len hj
    refine qf fun K10 hK10 => ?_
    (refine qc fun Y Yh=>?_;simp[go_sem, hlen];apply Yh;clear Yh Y;apply Xi)
    (refine qg fun T F hT hF=>?_;simp[go_sem];refine BR.intro (fun h11=>hT ?_) (fun h11=>hF ?_);all_goals clear hT hF T F;try simp at h11)
    ·refine qh ?_
     refine hK10 _ ?_; clear hK10
     have hjl : j < N.length := by omega
     obtain ⟨y, hy⟩ := nilN_at hjl
     have hstp := nilN_step hjl
     generalize nilN N j = nl at *
     refine qf fun K12 hK12 => ?_
     refine qj ?_
     (refine qB fun Y Yh=>?_;simp[go_sem, hy, hlen];((repeat' (first|apply And.intro|(apply Yh;clear Yh Y)));all_goals first|apply Xi|omega))
     refine hK12 _ ?_; clear hK12
     (refine qB fun Y Yh=>?_;simp[go_sem];((repeat' (first|apply And.intro|(apply Yh;clear Yh Y)));all_goals first|apply Xi|omega))
     refine ⟨j + 1, ?_, by omega, by omega⟩
     (refine ql ?_ ?_ <;> simp[go_sem, hstp])
    ·refine qp ?_
     simp only [go_sem]
     refine hK8 _ ?_; clear hK8
     have hje : j = N.length := by omega
     subst hje
     rw [nilN_end]
     refine zq 900003 7 0 rfl rfl (by decide) rfl ?_
     simp only [go_sem, List.set]
     refine zq 900004 7 1 rfl rfl (by decide) rfl ?_
     simp only [go_sem, List.set]
     (refine qc fun Y Yh=>?_;simp[go_sem];apply Yh;clear Yh Y;apply Xi)
     (refine qi ?_;simp[go_sem])
     rw [hNl]
     exact ⟨P, List.replicate P.length [], [], hlk, Weak.agg ⟨Weak.refl _, Weak.sl (weak_nils _), Weak.refl _, trivial⟩⟩
 by_cases he : e = 0
 ·subst he
  by_cases hp : 0 < L.1.length
  ·have hpi : (0 : Int) < L.1.length := by omega
   (refine qc fun Y Yh=>?_;simp[go_sem, hp, hpi];((repeat' (first|(refine qH ?_;simp[go_sem, hp, hpi])|(apply Yh;clear Yh Y)));all_goals apply Xi))
   (refine qg fun T F hT hF=>?_;simp[go_sem, hp, hpi];refine hT ?_;clear hT hF T F)
   (refine qc fun Y Yh=>?_;simp[go_sem];apply Yh;clear Yh Y;apply Xi)
   (refine qi ?_;simp[go_sem])
   obtain ⟨P, N, W⟩ := L
   exact ⟨P, N, W, hok rfl, Weak.refl _⟩
  ·have hpi : ¬ (0 : Int) < L.1.length := by omega
   (refine qc fun Y Yh=>?_;simp[go_sem, hp, hpi];((repeat' (first|(refine qH ?_;simp[go_sem, hp, hpi])|(apply Yh;clear Yh Y)));all_goals apply Xi))
   (refine qg fun T F hT hF=>?_;simp[go_sem, hp, hpi];refine hF ?_;clear hT hF T F)
   refine qh ?_
   refine tl1 _ ?_
   (refine ql ?_ ?_ <;> simp[go_sem])
 ·have hei : ¬ (e : Int) = 0 := by omega
  (refine qc fun Y Yh=>?_;simp[go_sem, he, hei];((repeat' (first|(refine qG ?_ ?_ ?_;(focus (simp[go_sem, undef, he, hei];done));(focus (simp[go_sem];done));simp[go_sem, he, hei])|(apply Yh;clear Yh Y)));all_goals apply Xi))
  (refine qg fun T F hT hF=>?_;simp[go_sem, he, hei];refine hF ?_;clear hT hF T F)
  refine qh ?_
  refine tl1 _ ?_
  (refine ql ?_ ?_ <;> simp[go_sem])
theorem Zy (l : List Int) (hl : l.length ≤ 9223372036854775807) : PCall Tryz.prog 22 [dIs l] fun r => ∃ L, lockV L = true ∧ r = dLk L := QD (grownW l hl)
abbrev mP (l : List Prs) : List (List D) := l.map cP
@[go_sem] abbrev rdH (p : PS) (gb gp gn gw : Nat) (rs : List (Nat × List Prs)) : List (Nat × (Nat × Blk)) :=
 (900002, (gb, .box [dI p.part, .own 900003 gp, .own 900004 gn, .own 900005 gw, dS p.sum])) :: (900003, (gp, .row 41 2 (p.picks.map cP))) :: (900004, (gn, .row 38 1 (famO 1 0 rs))) :: (900005, (gw, .row 114 2 (p.wish.map cP))) :: fam 1 114 2 mP 0 rs
structure PsOk (p : PS) (rs : List (Nat × List Prs)) : Prop where
 en : rs.map (fun x => x.2) = p.needs
 nl : p.needs.length = p.picks.length
 pl : p.picks.length ≤ 100000
 wl : p.wish.length ≤ 100000
 rl : ∀ r ∈ rs, r.2.length ≤ 100000
@[go_sem] abbrev rrH (p : PS) (n gb gp gn gw : Nat) (rs : List (Nat × List Prs)) : List (Nat × (Nat × Blk)) :=
 (900002, (gb, .box [.own 900003 gp, .own 900004 gn, .own 900005 gw, dI p.part, dI n])) :: (900003, (gp, .row 95 2 (p.picks.map cP))) :: (900004, (gn, .row 26 1 (famO 1 0 rs))) :: (900005, (gw, .row 43 2 (p.wish.map cP))) :: fam 1 94 2 mP 0 rs
end Go.Proofs.YteekfnhhlcmcgaaGreatDoor
set_option maxRecDepth 20000
namespace Go.Lk
open Go.Lib Go.Wh Go.Ver
/-! how long a valid lock's text is, and of how many lines -/
end Go.Lk
namespace Go.Proofs.YteekfnhhlcmcgaaGreatDoor
open Go.Eng Go.Wh Go.Ver Go.RowKit Go.Lk
set_option maxRecDepth 20000
attribute [local irreducible] AG CallA CallT AWp PCall ACall AgC
abbrev Z1 (x : Prs) : Prop := x.1.length ≤ 140737488355328 ∧ x.2.length ≤ 140737488355328
abbrev ZN (r : List Prs) : Prop := r.length ≤ 140737488355328 ∧ ∀ x ∈ r, Z1 x
abbrev ZL (L : Lck) : Prop := ZN L.1 ∧ (L.2.1.length ≤ 140737488355328 ∧ ∀ r ∈ L.2.1, ZN r) ∧ ZN L.2.2
theorem take_in {α : Type} {p : α → Prop} {l : List α} {i : Nat} {y : α} (h : l[i]? = some y) (h1 : ∀ x ∈ l.take i, p x) (h2 : p y) : ∀ x ∈ l.take (i + 1), p x := by
 rw [List.take_add_one, h]
 intro x hx
 rcases List.mem_append.1 hx with q | q
 ·exact h1 x q
 ·simp at q; subst q; exact h2
theorem quo100 (n : Nat) : ((n : Int).tdiv 100) = ((n / 100 : Nat) : Int) := by
 rw [Int.tdiv_eq_ediv_of_nonneg (by omega)]; rfl
set_option maxHeartbeats 16000000 in
theorem Zv (L : Lck) (hZ : ZL L) : PCall Tryz.prog 19 [dLk L] fun r => ∃ b, (b = false → LkOk L) ∧ r = dB b := by 
 refine qw Tryz.func19 rfl rfl Tryz.ntmps19 (rs := [.tmp 2]) (tys := [4]) rfl rfl (by simp) ?_
 obtain ⟨P, N, W⟩ := L
 obtain ⟨⟨zP, zP1⟩, ⟨zN, zN1⟩, zW, zW1⟩ := hZ
 simp only at zP zP1 zN zN1 zW zW1
 (refine qc fun Y Yh=>?_;simp[go_sem];intro _;apply Yh;clear Yh Y;apply Xi)
 rename_i g1
 (refine qc fun Y Yh=>?_;simp[go_sem];((repeat' (first|apply And.intro|(apply Yh;clear Yh Y)));all_goals first|apply Xi|omega))
 refine qf fun K1 hK1 => ?_
 have tl1 : ∀ S' n, n ≤ 562949953421312 → P.length + N.length + W.length ≤ n → (n < 1000 → ∀ r ∈ N, r.length ≤ 1000000 ∧ ∀ x ∈ r, PrOk x) → Cov S' ⟨[(1, .ptr 1 g1 0), (3, dI n)], [(1, (g1, .box [dPs P, dNs N, dPs W]))]⟩ → K1 S' := fun S' n hn hpw hN hS => by
  refine hK1 _ ?_; clear hK1
  refine qN hS ?_; clear hS
  refine qf fun K2 hK2 => ?_
  have tl2 : ∀ S' n, n ≤ 562949953421312 → P.length + N.length + W.length ≤ n → (n < 1000 → ∀ r ∈ N, r.length ≤ 1000000 ∧ ∀ x ∈ r, PrOk x) → (n < 1000 → ∀ x ∈ P, PrOk x) → Cov S' ⟨[(1, .ptr 1 g1 0), (3, dI n)], [(1, (g1, .box [dPs P, dNs N, dPs W]))]⟩ → K2 S' := fun S' n hn hpw hN hP hS => by
   refine hK2 _ ?_; clear hK2
   refine qN hS ?_; clear hS
   refine qf fun K3 hK3 => ?_
   have tl3 : ∀ S' n, n ≤ 562949953421312 → P.length + N.length + W.length ≤ n → (n < 1000 → ∀ r ∈ N, r.length ≤ 1000000 ∧ ∀ x ∈ r, PrOk x) → (n < 1000 → ∀ x ∈ P, PrOk x) → (n < 1000 → ∀ x ∈ W, PrOk x) → Cov S' ⟨[(1, .ptr 1 g1 0), (3, dI n)], [(1, (g1, .box [dPs P, dNs N, dPs W]))]⟩ → K3 S' := fun S' n hn hpw hN hP hW hS => by
    refine hK3 _ ?_; clear hK3
    refine qN hS ?_; clear hS
    (refine qc fun Y Yh=>?_;simp[go_sem];apply Yh;clear Yh Y;apply Xi)
    (refine qi ?_;simp[go_sem])
    intro hlt
    exact ⟨by show P.length ≤ _; omega, by show N.length ≤ _; omega, by show W.length ≤ _; omega, hP (by omega), hN (by omega), hW (by omega)⟩
   clear hK3
   (refine qc fun Y Yh=>?_;simp[go_sem];apply Yh;clear Yh Y;apply Xi)
   refine qj ?_
   refine qx (σ := Nat × Nat) (fun z => ⟨[(1, .ptr 1 g1 0), (3, dI z.2), (7, dI z.1)], [(1, (g1, .box [dPs P, dNs N, dPs W]))]⟩) (fun z => z.1 ≤ W.length ∧ n ≤ z.2 ∧ z.2 ≤ 562949953421312 ∧ (z.2 < 1000 → ∀ x ∈ W.take z.1, PrOk x)) (fun z => W.length - z.1) (0, n) ?_ ?_ ?_
   ·(refine ql ?_ ?_ <;> simp[go_sem])
   ·exact ⟨by simp, Nat.le_refl _, hn, fun _ => by simp⟩
   rintro ⟨i, m⟩ ⟨hi, hnm, hm, hT⟩
   simp only at hi hnm hm hT
   refine qf fun K4 hK4 => ?_
   by_cases h1 : i < W.length
   ·by_cases h2 : m < 1000
    ·have h2i : (m : Int) < 1000 := by omega
     have h1i : (i : Int) < W.length := by omega
     obtain ⟨x, hx⟩ : ∃ x, W[i]? = some x := ⟨_, List.getElem?_eq_getElem h1⟩
     obtain ⟨x1, x2⟩ := zW1 x (List.mem_of_getElem? hx)
     have q1 := quo100 x.1.length
     have q2 := quo100 x.2.length
     (refine qc fun Y Yh=>?_;simp[go_sem, h1, h1i, h2, h2i];((repeat' (first|(refine qH ?_;simp[go_sem, h1, h1i, h2, h2i])|(apply Yh;clear Yh Y)));all_goals apply Xi))
     (refine qg fun T F hT hF=>?_;simp[go_sem, h1, h1i, h2, h2i];refine hT ?_;clear hT hF T F)
     refine qh ?_
     refine hK4 _ ?_; clear hK4
     refine qf fun K5 hK5 => ?_
     refine qj ?_
     ((refine zA (.qs [0, 1, 3, 10, 12, 2, 4, 5, 6, 7, 8, 9, 11, 13, 14, 15, 16, 17, 18, 19] (.nil)) (by kernel_rfl) ?_ ?_ ?_ ?_);kernel_rfl;exact (by decide +kernel);kernel_rfl;intro Y Yh;((repeat' (first|refine qy ?_|(refine qo fun Y Yh=>?_;simp[go_sem, hx, q1, q2])|apply And.intro|(apply Yh;clear Yh Y)));all_goals first|apply Xi|omega))
     refine hK5 _ ?_; clear hK5
     (refine qB fun Y Yh=>?_;simp[go_sem];((repeat' (first|apply And.intro|(apply Yh;clear Yh Y)));all_goals first|apply Xi|omega))
     refine ⟨(i + 1, m + x.1.length / 100 + x.2.length / 100), ?_, ⟨by simp only; omega, by simp only; omega, by simp only; omega, fun q => take_in hx (hT h2) ⟨by simp only at q; omega, by simp only at q; omega⟩⟩, by simp only; omega⟩
     (refine ql ?_ ?_ <;> simp[go_sem])
    ·have h2i : ¬ (m : Int) < 1000 := by omega
     have h1i : (i : Int) < W.length := by omega
     (refine qc fun Y Yh=>?_;simp[go_sem, h1, h1i, h2, h2i];((repeat' (first|(refine qH ?_;simp[go_sem, h1, h1i, h2, h2i])|(apply Yh;clear Yh Y)));all_goals apply Xi))
     (refine qg fun T F hT hF=>?_;simp[go_sem, h1, h1i, h2, h2i];refine hF ?_;clear hT hF T F)
     refine qp ?_
     simp only [go_sem]
     refine tl3 _ m hm (by omega) (fun q => hN (by omega)) (fun q => hP (by omega)) (fun q => absurd q h2) ?_
     (refine ql ?_ ?_ <;> simp[go_sem])
   ·have h1i : ¬ (i : Int) < W.length := by omega
    have hie : i = W.length := by omega
    (refine qc fun Y Yh=>?_;simp[go_sem, h1, h1i];((repeat' (first|(refine qG ?_ ?_ ?_;(focus (simp[go_sem, undef, h1, h1i];done));(focus (simp[go_sem];done));simp[go_sem, h1, h1i])|(apply Yh;clear Yh Y)));all_goals apply Xi))
    (refine qg fun T F hT hF=>?_;simp[go_sem, h1, h1i];refine hF ?_;clear hT hF T F)
    refine qp ?_
    simp only [go_sem]
    rw [hie, List.take_length] at hT
    refine tl3 _ m hm (by omega) (fun q => hN (by omega)) (fun q => hP (by omega)) hT ?_
    (refine ql ?_ ?_ <;> simp[go_sem])
  clear hK2
  (refine qc fun Y Yh=>?_;simp[go_sem];apply Yh;clear Yh Y;apply Xi)
  refine qj ?_
  refine qx (σ := Nat × Nat) (fun z => ⟨[(1, .ptr 1 g1 0), (3, dI z.2), (6, dI z.1)], [(1, (g1, .box [dPs P, dNs N, dPs W]))]⟩) (fun z => z.1 ≤ P.length ∧ n ≤ z.2 ∧ z.2 ≤ 562949953421312 ∧ (z.2 < 1000 → ∀ x ∈ P.take z.1, PrOk x)) (fun z => P.length - z.1) (0, n) ?_ ?_ ?_
  ·(refine ql ?_ ?_ <;> simp[go_sem])
  ·exact ⟨by simp, Nat.le_refl _, hn, fun _ => by simp⟩
  rintro ⟨i, m⟩ ⟨hi, hnm, hm, hT⟩
  simp only at hi hnm hm hT
  refine qf fun K4 hK4 => ?_
  by_cases h1 : i < P.length
  ·by_cases h2 : m < 1000
   ·have h2i : (m : Int) < 1000 := by omega
    have h1i : (i : Int) < P.length := by omega
    obtain ⟨x, hx⟩ : ∃ x, P[i]? = some x := ⟨_, List.getElem?_eq_getElem h1⟩
    obtain ⟨x1, x2⟩ := zP1 x (List.mem_of_getElem? hx)
    have q1 := quo100 x.1.length
    have q2 := quo100 x.2.length
    (refine qc fun Y Yh=>?_;simp[go_sem, h1, h1i, h2, h2i];((repeat' (first|(refine qH ?_;simp[go_sem, h1, h1i, h2, h2i])|(apply Yh;clear Yh Y)));all_goals apply Xi))
    (refine qg fun T F hT hF=>?_;simp[go_sem, h1, h1i, h2, h2i];refine hT ?_;clear hT hF T F)
    refine qh ?_
    refine hK4 _ ?_; clear hK4
    refine qf fun K5 hK5 => ?_
    refine qj ?_
    ((refine zA (.qs [0, 1, 3, 10, 12, 2, 4, 5, 6, 7, 8, 9, 11, 13, 14, 15, 16, 17, 18, 19] (.nil)) (by kernel_rfl) ?_ ?_ ?_ ?_);kernel_rfl;exact (by decide +kernel);kernel_rfl;intro Y Yh;((repeat' (first|refine qy ?_|(refine qo fun Y Yh=>?_;simp[go_sem, hx, q1, q2])|apply And.intro|(apply Yh;clear Yh Y)));all_goals first|apply Xi|omega))
    refine hK5 _ ?_; clear hK5
    (refine qB fun Y Yh=>?_;simp[go_sem];((repeat' (first|apply And.intro|(apply Yh;clear Yh Y)));all_goals first|apply Xi|omega))
    refine ⟨(i + 1, m + x.1.length / 100 + x.2.length / 100), ?_, ⟨by simp only; omega, by simp only; omega, by simp only; omega, fun q => take_in hx (hT h2) ⟨by simp only at q; omega, by simp only at q; omega⟩⟩, by simp only; omega⟩
    (refine ql ?_ ?_ <;> simp[go_sem])
   ·have h2i : ¬ (m : Int) < 1000 := by omega
    have h1i : (i : Int) < P.length := by omega
    (refine qc fun Y Yh=>?_;simp[go_sem, h1, h1i, h2, h2i];((repeat' (first|(refine qH ?_;simp[go_sem, h1, h1i, h2, h2i])|(apply Yh;clear Yh Y)));all_goals apply Xi))
    (refine qg fun T F hT hF=>?_;simp[go_sem, h1, h1i, h2, h2i];refine hF ?_;clear hT hF T F)
    refine qp ?_
    simp only [go_sem]
    refine tl2 _ m hm (by omega) (fun q => hN (by omega)) (fun q => absurd q h2) ?_
    (refine ql ?_ ?_ <;> simp[go_sem])
  ·have h1i : ¬ (i : Int) < P.length := by omega
   have hie : i = P.length := by omega
   (refine qc fun Y Yh=>?_;simp[go_sem, h1, h1i];((repeat' (first|(refine qG ?_ ?_ ?_;(focus (simp[go_sem, undef, h1, h1i];done));(focus (simp[go_sem];done));simp[go_sem, h1, h1i])|(apply Yh;clear Yh Y)));all_goals apply Xi))
   (refine qg fun T F hT hF=>?_;simp[go_sem, h1, h1i];refine hF ?_;clear hT hF T F)
   refine qp ?_
   simp only [go_sem]
   rw [hie, List.take_length] at hT
   refine tl2 _ m hm (by omega) (fun q => hN (by omega)) hT ?_
   (refine ql ?_ ?_ <;> simp[go_sem])
 clear hK1
 (refine qc fun Y Yh=>?_;simp[go_sem];apply Yh;clear Yh Y;apply Xi)
 refine qj ?_
 refine qx (σ := Nat × Nat) (fun z => ⟨[(1, .ptr 1 g1 0), (3, dI z.2), (4, dI z.1)], [(1, (g1, .box [dPs P, dNs N, dPs W]))]⟩) (fun z => z.1 ≤ N.length ∧ P.length + N.length + W.length ≤ z.2 ∧ z.2 ≤ 562949953421312 ∧ (z.2 < 1000 → ∀ r ∈ N.take z.1, r.length ≤ 1000000 ∧ ∀ x ∈ r, PrOk x)) (fun z => N.length - z.1) (0, P.length + N.length + W.length) ?_ ?_ ?_
 ·(refine ql ?_ ?_ <;> simp[go_sem])
 ·exact ⟨by simp, Nat.le_refl _, by simp only; omega, fun _ => by simp⟩
 rintro ⟨i, m⟩ ⟨hi, hnm, hm, hT⟩
 simp only at hi hnm hm hT
 refine qf fun K4 hK4 => ?_
 by_cases h1 : i < N.length
 ·by_cases h2 : m < 1000
  ·have h2i : (m : Int) < 1000 := by omega
   have h1i : (i : Int) < N.length := by omega
   obtain ⟨r, hr⟩ : ∃ r, N[i]? = some r := ⟨_, List.getElem?_eq_getElem h1⟩
   obtain ⟨zr, zr1⟩ := zN1 r (List.mem_of_getElem? hr)
   (refine qc fun Y Yh=>?_;simp[go_sem, h1, h1i, h2, h2i];((repeat' (first|(refine qH ?_;simp[go_sem, h1, h1i, h2, h2i])|(apply Yh;clear Yh Y)));all_goals apply Xi))
   (refine qg fun T F hT hF=>?_;simp[go_sem, h1, h1i, h2, h2i];refine hT ?_;clear hT hF T F)
   refine qh ?_
   refine hK4 _ ?_; clear hK4
   refine qf fun K5 hK5 => ?_
   have tl5 : ∀ S' n, m ≤ n → n ≤ 562949953421312 → (n < 1000 → r.length ≤ 1000000 ∧ ∀ x ∈ r, PrOk x) → Cov S' ⟨[(1, .ptr 1 g1 0), (3, dI n), (4, dI i)], [(1, (g1, .box [dPs P, dNs N, dPs W]))]⟩ → K5 S' := fun S' n h1' h2' h3' hS => by
    refine hK5 _ ?_; clear hK5
    refine qN hS ?_; clear hS
    (refine qB fun Y Yh=>?_;simp[go_sem];((repeat' (first|apply And.intro|(apply Yh;clear Yh Y)));all_goals first|apply Xi|omega))
    refine ⟨(i + 1, n), ?_, ⟨by simp only; omega, by simp only; omega, h2', fun q => take_in hr (hT h2) (h3' q)⟩, by simp only; omega⟩
    (refine ql ?_ ?_ <;> simp[go_sem])
   clear hK5
   refine qj ?_
   (refine qc fun Y Yh=>?_;simp[go_sem, hr];((repeat' (first|apply And.intro|(apply Yh;clear Yh Y)));all_goals first|apply Xi|omega))
   (refine qc fun Y Yh=>?_;simp[go_sem];apply Yh;clear Yh Y;apply Xi)
   refine qj ?_
   refine qx (σ := Nat × Nat) (fun z => ⟨[(1, .ptr 1 g1 0), (3, dI z.2), (4, dI i), (5, dI z.1)], [(1, (g1, .box [dPs P, dNs N, dPs W]))]⟩) (fun z => z.1 ≤ r.length ∧ m + r.length ≤ z.2 ∧ z.2 ≤ 562949953421312 ∧ (z.2 < 1000 → ∀ x ∈ r.take z.1, PrOk x)) (fun z => r.length - z.1) (0, m + r.length) ?_ ?_ ?_
   ·(refine ql ?_ ?_ <;> simp[go_sem])
   ·exact ⟨by simp, Nat.le_refl _, by simp only; omega, fun _ => by simp⟩
   rintro ⟨k, n⟩ ⟨hk, hkn, hn, hR⟩
   simp only at hk hkn hn hR
   refine qf fun K7 hK7 => ?_
   by_cases h3 : k < r.length
   ·by_cases h4 : n < 1000
    ·have h4i : (n : Int) < 1000 := by omega
     have h3i : (k : Int) < r.length := by omega
     obtain ⟨x, hx⟩ : ∃ x, r[k]? = some x := ⟨_, List.getElem?_eq_getElem h3⟩
     obtain ⟨x1, x2⟩ := zr1 x (List.mem_of_getElem? hx)
     have q1 := quo100 x.1.length
     have q2 := quo100 x.2.length
     (refine qc fun Y Yh=>?_;simp[go_sem, hr, h3, h3i, h4, h4i];((repeat' (first|(refine qH ?_;simp[go_sem, hr, h3, h3i, h4, h4i])|(apply Yh;clear Yh Y)));all_goals apply Xi))
     (refine qg fun T F hT hF=>?_;simp[go_sem, h3, h3i, h4, h4i];refine hT ?_;clear hT hF T F)
     refine qh ?_
     refine hK7 _ ?_; clear hK7
     refine qf fun K8 hK8 => ?_
     refine qj ?_
     ((refine zA (.qs [0, 1, 3, 6, 13, 15, 18, 2, 4, 5, 7, 8, 9, 10, 11, 12, 14, 16, 17, 19, 20, 21, 22, 23, 24, 25] (.nil)) (by kernel_rfl) ?_ ?_ ?_ ?_);kernel_rfl;exact (by decide +kernel);kernel_rfl;intro Y Yh;((repeat' (first|refine qy ?_|(refine qo fun Y Yh=>?_;simp[go_sem, hr, hx, q1, q2])|apply And.intro|(apply Yh;clear Yh Y)));all_goals first|apply Xi|omega))
     refine hK8 _ ?_; clear hK8
     (refine qB fun Y Yh=>?_;simp[go_sem];((repeat' (first|apply And.intro|(apply Yh;clear Yh Y)));all_goals first|apply Xi|omega))
     refine ⟨(k + 1, n + x.1.length / 100 + x.2.length / 100), ?_, ⟨by simp only; omega, by simp only; omega, by simp only; omega, fun q => take_in hx (hR h4) ⟨by simp only at q; omega, by simp only at q; omega⟩⟩, by simp only; omega⟩
     (refine ql ?_ ?_ <;> simp[go_sem])
    ·have h4i : ¬ (n : Int) < 1000 := by omega
     have h3i : (k : Int) < r.length := by omega
     (refine qc fun Y Yh=>?_;simp[go_sem, hr, h3, h3i, h4, h4i];((repeat' (first|(refine qH ?_;simp[go_sem, hr, h3, h3i, h4, h4i])|(apply Yh;clear Yh Y)));all_goals apply Xi))
     (refine qg fun T F hT hF=>?_;simp[go_sem, h3, h3i, h4, h4i];refine hF ?_;clear hT hF T F)
     refine qp ?_
     simp only [go_sem]
     refine tl5 _ n (by omega) hn (fun q => absurd q h4) ?_
     (refine ql ?_ ?_ <;> simp[go_sem])
   ·have h3i : ¬ (k : Int) < r.length := by omega
    have hke : k = r.length := by omega
    (refine qc fun Y Yh=>?_;simp[go_sem, hr, h3, h3i];((repeat' (first|(refine qG ?_ ?_ ?_;(focus (simp[go_sem, undef, hr, h3, h3i];done));(focus (simp[go_sem];done));simp[go_sem, hr, h3, h3i])|(apply Yh;clear Yh Y)));all_goals apply Xi))
    (refine qg fun T F hT hF=>?_;simp[go_sem, h3, h3i];refine hF ?_;clear hT hF T F)
    refine qp ?_
    simp only [go_sem]
    rw [hke, List.take_length] at hR
    refine tl5 _ n (by omega) hn (fun q => ⟨by omega, hR q⟩) ?_
    (refine ql ?_ ?_ <;> simp[go_sem])
  ·have h2i : ¬ (m : Int) < 1000 := by omega
   have h1i : (i : Int) < N.length := by omega
   (refine qc fun Y Yh=>?_;simp[go_sem, h1, h1i, h2, h2i];((repeat' (first|(refine qH ?_;simp[go_sem, h1, h1i, h2, h2i])|(apply Yh;clear Yh Y)));all_goals apply Xi))
   (refine qg fun T F hT hF=>?_;simp[go_sem, h1, h1i, h2, h2i];refine hF ?_;clear hT hF T F)
   refine qp ?_
   simp only [go_sem]
   refine tl1 _ m hm hnm (fun q => absurd q h2) ?_
   (refine ql ?_ ?_ <;> simp[go_sem])
 ·have h1i : ¬ (i : Int) < N.length := by omega
  have hie : i = N.length := by omega
  (refine qc fun Y Yh=>?_;simp[go_sem, h1, h1i];((repeat' (first|(refine qG ?_ ?_ ?_;(focus (simp[go_sem, undef, h1, h1i];done));(focus (simp[go_sem];done));simp[go_sem, h1, h1i])|(apply Yh;clear Yh Y)));all_goals apply Xi))
  (refine qg fun T F hT hF=>?_;simp[go_sem, h1, h1i];refine hF ?_;clear hT hF T F)
  refine qp ?_
  simp only [go_sem]
  rw [hie, List.take_length] at hT
  refine tl1 _ m hm hnm hT ?_
  (refine ql ?_ ?_ <;> simp[go_sem])
end Go.Proofs.YteekfnhhlcmcgaaGreatDoor
namespace Go.Proofs.YteekfnhhlcmcgaaGreatDoor
open Go.Eng Go.WideShapes Go.Wh Go.Ver Go.Lk
set_option maxRecDepth 100000
/-! the parameters with their sizes -/
theorem oz_int : OpensZ Tryz.prog 3 (fun n : Int => cI n) InR := Zq Tryz.underlying3
theorem oz_str : OpensZ Tryz.prog 9 (fun s : List UInt8 => [dS s]) (fun s => s.length ≤ 140737488355328) :=
 (Zp Tryz.underlying9).iso (fun s => s.data.toList) (fun s => by cases s; simp) (fun s h => by
  have h : s.data.size ≤ reachBytes := h
  rw [Array.length_toList]
  unfold reachBytes at h
  omega)
theorem oz_ints : OpensZ Tryz.prog 22 (fun l : List Int => [dIs l]) (fun l => l.length ≤ 9223372036854775807 ∧ ∀ x ∈ l, InR x) :=
 (zU 1 Tryz.underlying22 (by kernel_rfl) (by decide) (fun _ => rfl) oz_int).iso (fun l => l) (fun _ => rfl) (fun l h => ⟨h.2.1, h.2.2⟩)
theorem oz_pick : OpensZ Tryz.prog 41 (fun x : Prs => cP x) Z1 := by
 have h := zQ (e := 2) Tryz.underlying41 rfl (by kernel_rfl) (zi (n := 1) rfl (by kernel_rfl) oz_str (zi (n := 1) rfl (by kernel_rfl) oz_str jf))
 exact h.iso (fun x => (x.1, x.2.1)) (fun _ => rfl) (fun _ q => ⟨q.1, q.2.1⟩)
theorem oz_need : OpensZ Tryz.prog 114 (fun x : Prs => cP x) Z1 := by
 have h := zQ (e := 2) Tryz.underlying114 rfl (by kernel_rfl) (zi (n := 1) rfl (by kernel_rfl) oz_str (zi (n := 1) rfl (by kernel_rfl) oz_str jf))
 exact h.iso (fun x => (x.1, x.2.1)) (fun _ => rfl) (fun _ q => ⟨q.1, q.2.1⟩)
theorem by83 : Tryz.prog.bytesOf 41 = 32 := by kernel_rfl
theorem by100 : Tryz.prog.bytesOf 114 = 32 := by kernel_rfl
theorem by43 : Tryz.prog.bytesOf 38 = 24 := by kernel_rfl
theorem reach_le {n k : Nat} (h : n * k ≤ reachBytes) (hk : 1 ≤ k) : n ≤ 140737488355328 := by
 have h1 : n * 1 ≤ n * k := Nat.mul_le_mul_left _ hk
 unfold reachBytes at h
 omega
theorem oz_picks : OpensZ Tryz.prog 34 (fun l : List Prs => [dPs l]) ZN :=
 (zU 2 Tryz.underlying34 (by kernel_rfl) (by decide) (fun _ => rfl) oz_pick).iso (fun l => l) (fun _ => rfl) (fun l h => ⟨reach_le h.1 (by rw [by83]; decide), h.2.2⟩)
theorem oz_needs : OpensZ Tryz.prog 38 (fun l : List Prs => [dPs l]) ZN :=
 (zU 2 Tryz.underlying38 (by kernel_rfl) (by decide) (fun _ => rfl) oz_need).iso (fun l => l) (fun _ => rfl) (fun l h => ⟨reach_le h.1 (by rw [by100]; decide), h.2.2⟩)
theorem oz_nds : OpensZ Tryz.prog 51 (fun l : List (List Prs) => [dNs l]) (fun l => l.length ≤ 140737488355328 ∧ ∀ r ∈ l, ZN r) :=
 (zU 1 Tryz.underlying51 (by kernel_rfl) (by decide) (fun _ => rfl) oz_needs).iso (fun l => l) (fun _ => rfl) (fun l h => ⟨reach_le h.1 (by rw [by43]; decide), h.2.2⟩)
theorem oz_lock : OpensZ Tryz.prog 53 (fun L : Lck => [dPs L.1, dNs L.2.1, dPs L.2.2]) ZL := by
 have h := zQ (e := 3) Tryz.underlying53 rfl (by kernel_rfl) (zi (n := 1) rfl (by kernel_rfl) oz_picks (zi (n := 1) rfl (by kernel_rfl) oz_nds (zi (n := 1) rfl (by kernel_rfl) oz_needs jf)))
 exact h.iso (fun x => (x.1, x.2.1, x.2.2.1)) (fun _ => rfl) (fun _ q => ⟨q.1, q.2.1, q.2.2.1⟩)
theorem wrapZ {H : Type} {enc : TypeId × Value → H} {a : Assume} {C : Checked} {os : Os} {f : FuncId} {fn : Func} {s : ChangeSpec} {conds : List PathCond} {apart fresh handsOn again : Bool} {X : World → Array Value → Prop}
  (hX : ∀ (w w' : World) (args : Array Value), w.heap = w'.heap → X w args → X w' args)
  (own : ownKnob C.prog.godebug = none) (started : os.Started) (noInit : C.prog.inits.idxOf? f = none) (hfn : C.prog.funcs[f]? = some fn)
  (witness : ∃ (w : World) (tape : Tape) (i : Input), w.os = os ∧ (w.forCall tape i).Shaped C.prog ∧ i.vars = [] ∧ Input.okWide C.prog (w.forCall tape i) .any w.heap.size f i ∧
   ((s.pre enc C.prog fn conds apart (w.forCall tape i).memory i.args ∧ X (w.forCall tape i).memory i.args) ∧ sizedMet enc C.prog fn (OpenSpec.ofChange s) apart (w.forCall tape i).memory i.args) ∧ a.holds C.prog (lone (Frame.enter C.prog f i.args .normal) [] (w.forCall tape i)))
  (contract : ∀ (W : World) (base : Nat) (args : Array Value) (ds gs : List (DataW H)) (before : List MemPlace),
   (∀ (j : Nat) t v, fn.params[j]? = some t → args[j]? = some v → Value.okWide C.prog W .any base t v) →
   DataW.Whole enc C.prog fn.params.toList s.vars apart W args.toList ds gs before → sizedMet enc C.prog fn (OpenSpec.ofChange s) apart W args → X W args → W.ShapedOpen C.prog →
   Calls C.prog f args W fun e W' => ∃ v, e = .returned v ∧ s.post enc C.prog fn apart fresh handsOn again W args v W') :
  ReturnsInHanded a C os f .any (fun w args => (s.pre enc C.prog fn conds apart w args ∧ X w args) ∧ sizedMet enc C.prog fn (OpenSpec.ofChange s) apart w args) (s.post enc C.prog fn apart fresh handsOn again) := by
 refine returnsInHanded_of_calls own started noInit witness ?_
 intro w tape i _ hsh _ hok hpre hholds
 obtain ⟨_, _, _, fn', hfn', _, _, _, _, hval⟩ := hok
 have e : fn' = fn := Option.some.inj (hfn'.symm.trans hfn)
 subst e
 obtain ⟨⟨⟨ds, gs, before, hw, hc⟩, hx⟩, hp, dz, gz, bz, hwz, hlz⟩ := hpre
 have hw' := DataW.Whole.of_heap (w' := w.forCall tape i) (by rfl) hw
 have hwz' := DataW.Whole.of_heap (w' := w.forCall tape i) (by rfl) hwz
 refine (contract (w.forCall tape i) w.heap.size i.args ds gs before hval hw' ⟨hp, dz, gz, bz, hwz', hlz⟩ (hX _ _ _ (by rfl) hx) hsh).mono fun e W' ⟨v, he, hp⟩ => ?_
 subst he
 exact ChangeSpec.post_blind hp
end Go.Proofs.YteekfnhhlcmcgaaGreatDoor
namespace Go.Lk
/-! a map of strings -/
def slook : List (Bs × Bs) → Bs → Option Bs
 | [], _ => none
 | (k, v) :: m, r => if r = k then some v else slook m r
def sput (d v : Bs) : List (Bs × Bs) → List (Bs × Bs)
 | [] => [(d, v)]
 | (k, w) :: m => if d = k then (d, v) :: m else (k, w) :: sput d v m
end Go.Lk
namespace Go.Lk
open Go.Ver
abbrev bl (a b : Bs) : Prop := Op.bytesLess a b = true
def nmsL (a b : List Prs) : List Bs := Go.Lib.compact ((a.map (·.1) ++ b.map (·.1)).mergeSort fun x y => decide (x ≤ y))
theorem pick_asc' (L : Lck) : ∀ n, n ≤ L.1.length → pickTo L n = true → Asc (L.1.take n)
 | 0, _, _ => by simp
 | n + 1, hn, h => by
  simp only [pickTo, Bool.and_eq_true] at h
  obtain ⟨x, hx⟩ : ∃ x, L.1[n]? = some x := ⟨_, List.getElem?_eq_getElem (by omega)⟩
  have ih := pick_asc' L n (by omega) h.1
  rw [List.take_add_one, hx]
  show Asc (L.1.take n ++ [x])
  refine List.pairwise_append.2 ⟨ih, List.pairwise_singleton _ _, fun p hp q hq => ?_⟩
  simp only [List.mem_singleton] at hq
  subst hq
  have h2 := h.2
  unfold pickAt at h2
  rw [hx] at h2
  simp only [Bool.and_eq_true, Bool.or_eq_true, decide_eq_true_eq] at h2
  rcases h2.1.2 with e | e
  ·subst e; simp at hp
  ·obtain ⟨y, hy⟩ : ∃ y, L.1[n - 1]? = some y := ⟨_, List.getElem?_eq_getElem (by omega)⟩
   rw [hy] at e
   simp only at e
   obtain ⟨i, hi, rfl⟩ := List.getElem_of_mem hp
   simp only [List.length_take] at hi
   rw [List.getElem_take]
   obtain ⟨y1, y2⟩ := List.getElem?_eq_some_iff.1 hy
   by_cases hi' : i = n - 1
   ·subst hi'
    rw [y2]; exact e
   ·have := List.pairwise_iff_getElem.1 ih i (n - 1) (by simp; omega) (by simp; omega) (by omega)
    rw [List.getElem_take, List.getElem_take, y2] at this
    exact bl_trans this e
theorem lock_asc {L : Lck} (h : lockV L = true) : Asc L.1 := by
 simp only [lockV, Bool.and_eq_true] at h
 have := pick_asc' L L.1.length (Nat.le_refl _) h.2
 rwa [List.take_length] at this
end Go.Lk
set_option maxRecDepth 20000
namespace Go.Lk
open Go.Lib Go.Wh Go.Ver
/-! the program's search against the specification's -/
theorem slook_find : ∀ (l : List Prs) (g : Bs), slook l g = (l.find? fun x => decide (x.1 = g)).map (·.2)
 | [], _ => rfl
 | (k, v) :: l, g => by
  have ih := slook_find l g
  simp only [slook, List.find?_cons]
  by_cases h : k = g
  ·subst h; simp
  ·have h' : ¬ g = k := fun e => h e.symm
   simp [h, h', ih]
theorem slook_pkd {l : List Prs} (h : NumOk l) (g : Bs) : slook l g = if pkdV l g = [] then none else some (pkdV l g) := by
 rw [slook_find]
 unfold pkdV
 cases hf : l.find? (fun x => decide (x.1 = g)) with
 | none => simp
 | some x => have := h x (List.mem_of_find?_eq_some hf); simp [this]
theorem slook_none {l : List Prs} (h : NumOk l) {g : Bs} : slook l g = none ↔ pkdV l g = [] := by
 rw [slook_pkd h]; split <;> simp_all
theorem sput_new : ∀ {l : List Prs} {d v : Bs}, slook l d = none → sput d v l = l ++ [(d, v)]
 | [], d, v, _ => rfl
 | (k, w) :: l, d, v, h => by
  simp only [slook] at h
  split at h
  ·cases h
  ·rename_i e
   simp only [sput, if_neg e, sput_new h, List.cons_append]
def sdel (d : Bs) : List (Bs × Bs) → List (Bs × Bs)
 | [] => []
 | (k, w) :: m => if d = k then m else (k, w) :: sdel d m
theorem sdel_new : ∀ {l : List Prs} {d v : Bs}, slook l d = none → sdel d (l ++ [(d, v)]) = l
 | [], d, v, _ => by simp [sdel]
 | (k, w) :: l, d, v, h => by
  simp only [slook] at h
  split at h
  ·cases h
  ·rename_i e
   simp only [List.cons_append, sdel, if_neg e, sdel_new h]
def gemV (s : Src) (n : Bs) : Option Gm := s.find? fun g => decide (g.1 = n)
theorem xH {s : Src} {n : Bs} {g : Gm} (h : gemV s n = some g) : g ∈ s ∧ g.1 = n := ⟨List.mem_of_find?_eq_some h, by simpa using List.find?_some h⟩
theorem jZ {s : Src} (h : suV s = true) : s.Pairwise fun g k => Op.bytesLess g.1 k.1 = true := by
 unfold suV at h
 rw [Bool.and_eq_true] at h
 have step : ∀ i, ∀ g k, s[i]? = some g → s[i + 1]? = some k → Op.bytesLess g.1 k.1 = true := fun i g k hg hk => by
  have := upTo_at h.2 (List.getElem?_eq_some_iff.1 hk).1
  unfold suAt at this
  rw [hk] at this
  simp only [Bool.and_eq_true, Bool.or_eq_true, decide_eq_true_eq, Nat.add_sub_cancel, hg] at this
  rcases this.1.2 with q | q
  ·omega
  ·exact q
 rw [List.pairwise_iff_getElem]
 intro i j hi hj hij
 have key : ∀ d i (hi : i < s.length) (hj : i + d + 1 < s.length), Op.bytesLess s[i].1 s[i + d + 1].1 = true := by
  intro d
  induction d with
  | zero => intro i hi hj; exact step i _ _ (List.getElem?_eq_getElem hi) (List.getElem?_eq_getElem hj)
  | succ d ih =>
   intro i hi hj
   exact bl_trans (ih i hi (by omega)) (step (i + d + 1) _ _ (List.getElem?_eq_getElem (by omega)) (List.getElem?_eq_getElem hj))
 have := key (j - i - 1) i hi (by omega)
 have e : i + (j - i - 1) + 1 = j := by omega
 simp only [e] at this
 exact this
theorem asc_ne {s : Src} (h : s.Pairwise fun g k => Op.bytesLess g.1 k.1 = true) : s.Pairwise fun g k => g.1 ≠ k.1 :=
 h.imp fun {a b} q e => by rw [e, bl_irr] at q; cases q
theorem ZO {s : Src} (h : suV s = true) {g : Gm} (hg : g ∈ s) : gemV s g.1 = some g := by
 have ha := asc_ne (jZ h)
 clear h
 induction s with
 | nil => cases hg
 | cons x s ih =>
  obtain ⟨h1, h2⟩ := List.pairwise_cons.1 ha
  unfold gemV
  rw [List.find?_cons]
  rcases List.mem_cons.1 hg with rfl | hg'
  ·simp
  ·have := h1 g hg'
   simp only [decide_eq_true_eq, this, decide_false]
   exact ih hg' h2
theorem cstG_none {all l : List Prs} {gem : Bs} : ∀ {s : Src} {o : List Vrs}, (∀ g ∈ s, g.1 ≠ gem) → s.foldl (cstG all l gem) o = o
 | [], o, _ => rfl
 | g :: s, o, h => by
  rw [List.foldl_cons]
  have : cstG all l gem o g = o := by unfold cstG; rw [if_neg (h g (by simp))]
  rw [this]
  exact cstG_none fun g hg => h g (by simp [hg])
theorem cand_gem {all l : List Prs} {gem : Bs} : ∀ {s : Src} {o : List Vrs}, (s.Pairwise fun g k => g.1 ≠ k.1) → s.foldl (cstG all l gem) o = (match gemV s gem with | some g => g.2.foldl (cstV all l gem) o | none => o)
 | [], o, _ => rfl
 | g :: s, o, h => by
  obtain ⟨h1, h2⟩ := List.pairwise_cons.1 h
  rw [List.foldl_cons]
  unfold gemV
  rw [List.find?_cons]
  by_cases e : g.1 = gem
  ·simp only [e, decide_true]
   rw [cstG_none fun k hk => by rw [← e]; exact fun q => h1 k hk q.symm]
   unfold cstG; rw [if_pos e]
  ·simp only [e, decide_false]
   have : cstG all l gem o g = o := by unfold cstG; rw [if_neg e]
   rw [this]
   exact cand_gem h2
def cD (x y : Vrs) : Int := cV y.1 x.1
def ltD (x y : Vrs) : Bool := decide (cD x y < 0)
theorem wk_ltD : Weakly ltD where
 anti := fun x y h => by
  unfold ltD cD cV at *
  have := zS (readP x.1) (readP y.1)
  simp at h ⊢
  omega
 neg := fun x y z h1 h2 => by
  unfold ltD cD cV at *
  simp at h1 h2 ⊢
  have a1 := zS (readP x.1) (readP y.1)
  have a2 := zS (readP y.1) (readP z.1)
  have a3 := zS (readP x.1) (readP z.1)
  have := vP (a := readP z.1) (b := readP y.1) (c := readP x.1) (by omega) (by omega)
  omega
def srtD (l : List Vrs) : List Vrs := sortL ltD l
theorem srtD_mem {l : List Vrs} {v : Vrs} : v ∈ srtD l ↔ v ∈ l := sort_mem
theorem srtD_len (l : List Vrs) : (srtD l).length = l.length := sort_len l
theorem xu {α : Type} {lt : α → α → Bool} : ∀ (L R : List α), (mergeL lt L R).Perm (L ++ R)
 | [], R => by rw [zl]; exact .refl _
 | l :: L, [] => by rw [zf]; simp
 | l :: L, r :: R => by
  rw [qP]
  split
  ·exact ((xu (l :: L) R).cons r).trans (List.perm_middle (l₁ := l :: L)).symm
  ·exact (xu L (r :: R)).cons l
termination_by L R => L.length + R.length
theorem sortL_perm {α : Type} {lt : α → α → Bool} : ∀ l : List α, (sortL lt l).Perm l
 | [] => .refl _
 | x :: l => by
  have ih := sortL_perm (lt := lt) l
  show (mergeL lt [x] (sortL lt l)).Perm _
  exact (xu _ _).trans (ih.cons x)
def RankOk (l : List Vrs) : Prop := (∀ v ∈ l, (readV v.1).isSome = true) ∧ l.Pairwise fun x y => cV x.1 y.1 ≠ 0
theorem kU {l : List Vrs} (h : vuV l = true) : RankOk l := by
 have hp := (zh h).2
 refine ⟨fun v hv => (hp v hv).1, ?_⟩
 unfold vuV at h
 rw [Bool.and_eq_true] at h
 rw [List.pairwise_iff_getElem]
 intro i j hi hj hij
 have := upTo_at h.2 hj
 unfold vuAt at this
 rw [List.getElem?_eq_getElem hj] at this
 simp only [Bool.and_eq_true] at this
 have := upTo_at this.2 hij
 unfold rankAt at this
 rw [List.getElem?_eq_getElem hi] at this
 simp only [decide_eq_true_eq] at this
 unfold compareP at this
 rw [if_pos (by rw [(hp _ (List.getElem_mem hi)).1, (hp _ (List.getElem_mem hj)).1]; rfl)] at this
 exact this
theorem ku (x y : Bs) : cV x y = -cV y x := zS _ _
theorem Qj {x y : Bs} (hx : (readV x).isSome = true) (hy : (readV y).isSome = true) : compareP x y = cV x y := by
 unfold compareP; rw [if_pos (by rw [hx, hy]; rfl)]; rfl
abbrev Dsc (l : List Vrs) : Prop := l.Pairwise fun x y => cV y.1 x.1 < 0
theorem rank_perm {l m : List Vrs} (h : l.Perm m) (hr : RankOk l) : RankOk m :=
 ⟨fun v hv => hr.1 v (h.symm.subset hv), h.pairwise hr.2 fun {x y} q e => q (by rw [ku, e]; rfl)⟩
theorem srtD_dsc {l : List Vrs} (h : RankOk l) : Dsc (srtD l) := by
 have h1 : Srt ltD (srtD l) := sort_srt wk_ltD l
 have h2 := (rank_perm (sortL_perm (lt := ltD) l).symm h).2
 refine (List.Pairwise.and h1 h2).imp fun {x y} q => ?_
 have := q.1
 unfold ltD cD at this
 simp only [decide_eq_false_iff_not] at this
 have := q.2
 have := ku x.1 y.1
 omega
theorem Xg {x y z : Bs} (h1 : cV x y < 0) (h2 : cV y z < 0) : cV x z < 0 := Za h1 (by unfold cV at h2; omega)
theorem QS {v : Vrs} : ∀ {out : List Vrs}, Dsc out → (∀ y ∈ out, cV y.1 v.1 ≠ 0 ∧ compareP y.1 v.1 = cV y.1 v.1) → Dsc (insV v out)
 | [], _, _ => by simp [insV]
 | y :: r, h, hr => by
  obtain ⟨h1, h2⟩ := List.pairwise_cons.1 h
  obtain ⟨q1, q2⟩ := hr y (by simp)
  unfold insV
  rw [q2]
  split
  ·rename_i hlt
   refine List.pairwise_cons.2 ⟨fun z hz => ?_, h⟩
   rcases List.mem_cons.1 hz with rfl | hz
   ·exact hlt
   ·exact Xg (h1 z hz) hlt
  ·rename_i hlt
   refine List.pairwise_cons.2 ⟨fun z hz => ?_, QS h2 fun z hz => hr z (by simp [hz])⟩
   rcases xG.1 hz with rfl | hz
   ·have := ku y.1 z.1; omega
   ·exact h1 z hz
theorem wR (v : Vrs) : ∀ out : List Vrs, (insV v out).Perm (v :: out)
 | [] => .refl _
 | y :: r => by
  unfold insV
  split
  ·exact .refl _
  ·exact ((wR v r).cons y).trans (.swap _ _ _)
theorem vJ {all l : List Prs} {gem : Bs} : ∀ {vs o : List Vrs}, RankOk vs → Dsc o → (∀ y ∈ o, ∀ v ∈ vs, cV y.1 v.1 ≠ 0 ∧ (readV y.1).isSome = true) →
  Dsc (vs.foldl (cstV all l gem) o) ∧ (vs.foldl (cstV all l gem) o).Perm (o ++ vs.filter (fitV all l gem))
 | [], o, _, h, _ => ⟨h, by simp⟩
 | v :: vs, o, hr, h, ho => by
  rw [List.foldl_cons]
  have hr2 : RankOk vs := ⟨fun x hx => hr.1 x (by simp [hx]), (List.pairwise_cons.1 hr.2).2⟩
  have hv := hr.1 v (by simp)
  unfold cstV
  by_cases hf : fitV all l gem v = true
  ·rw [if_pos hf]
   have hd : Dsc (insV v o) := QS h fun y hy => ⟨(ho y hy v (by simp)).1, Qj (ho y hy v (by simp)).2 hv⟩
   obtain ⟨h1, h2⟩ := vJ (all := all) (l := l) (gem := gem) hr2 hd fun y hy x hx => by
    rcases xG.1 hy with rfl | hy
    ·exact ⟨(List.pairwise_cons.1 hr.2).1 x hx, hv⟩
    ·exact ho y hy x (by simp [hx])
   refine ⟨h1, h2.trans ?_⟩
   rw [List.filter_cons, if_pos hf]
   exact ((wR v o).append_right _).trans List.perm_middle.symm
  ·rw [if_neg hf, List.filter_cons, if_neg hf]
   exact vJ hr2 h fun y hy x hx => ho y hy x (by simp [hx])
theorem cand_eq {s : Src} {w l : List Prs} {gem : Bs} (hs : suV s = true) : candV s w l gem = (match gemV s gem with | some g => (srtD g.2).filter (fitV (allN s w l) l gem) | none => []) := by
 unfold candV
 rw [cand_gem (asc_ne (jZ hs))]
 cases hg : gemV s gem with
 | none => rfl
 | some g =>
  simp only
  have hr := kU ((qW hs).2 g (xH hg).1).2
  obtain ⟨h1, h2⟩ := vJ (all := allN s w l) (l := l) (gem := gem) (o := []) hr List.Pairwise.nil (fun y hy => by cases hy)
  rw [List.nil_append] at h2
  refine List.Perm.eq_of_pairwise (le := fun x y : Vrs => cV y.1 x.1 < 0) (fun a b _ _ q1 q2 => ?_) h1 ((srtD_dsc hr).filter _) (h2.trans (((sortL_perm (lt := ltD) g.2).symm).filter (fitV (allN s w l) l gem)))
  have := ku a.1 b.1
  omega
theorem tryL_skip {rec : List Prs → Nat → (List Prs × Nat) × Nat} {bud : Nat} {gem : Bs} {l : List Prs} {c : List Vrs} {f : Vrs → Bool} {i t : Nat} {v : Vrs} (h : c[i]? = some v) (hf : f v = false) :
  tryL rec bud gem l ((c.drop i).filter f) t = tryL rec bud gem l ((c.drop (i + 1)).filter f) t := by
 rw [drop_cons h, List.filter_cons, if_neg (by simp [hf])]
theorem tryL_take {rec : List Prs → Nat → (List Prs × Nat) × Nat} {bud : Nat} {gem : Bs} {l : List Prs} {c : List Vrs} {f : Vrs → Bool} {i t : Nat} {v : Vrs} (h : c[i]? = some v) (hf : f v = true) :
  tryL rec bud gem l ((c.drop i).filter f) t = if bud < t + 1 then (([], 12), t + 1)
  else if (rec (l ++ [(gem, v.1)]) (t + 1)).1.2 ≠ 3 then rec (l ++ [(gem, v.1)]) (t + 1)
  else tryL rec bud gem l ((c.drop (i + 1)).filter f) (rec (l ++ [(gem, v.1)]) (t + 1)).2 := by
 rw [drop_cons h, List.filter_cons, if_pos (by simp [hf])]; rfl
def oneN (l : List Prs) (gem v : Bs) (n : Prs) : Option Bs := if n.1 = gem then some v else slook l n.1
theorem bFit_eq {l : List Prs} (h : NumOk l) {gem v : Bs} (hg : pkdV l gem = []) (hv : v ≠ []) (n : Prs) : bFit (l ++ [(gem, v)]) n = (match oneN l gem v n with | none => true | some o => meetsP o n.2) := by
 unfold bFit oneN
 have hf := (pkd_none h).1 hg
 rw [pkd_app]
 by_cases e : n.1 = gem
 ·subst e
  simp [hf, hv]
 ·have e' : ¬ gem = n.1 := fun q => e q.symm
  rw [if_neg e, slook_find]
  simp only [if_neg e']
  unfold pkdV
  cases hq : l.find? (fun x => decide (x.1 = n.1)) with
  | none => simp
  | some x => have := h x (List.mem_of_find?_eq_some hq); simp [this]
def pksV (s : Src) (l : List Prs) : List Prs := s.filterMap fun g => (slook l g.1).map fun n => (g.1, n)
theorem pks_step {s : Src} {l : List Prs} {i : Nat} {g : Gm} (h : s[i]? = some g) : pksV (s.take (i + 1)) l = pksV (s.take i) l ++ (match slook l g.1 with | some n => [(g.1, n)] | none => []) := by
 unfold pksV
 rw [List.take_add_one, h, List.filterMap_append]
 cases hq : slook l g.1 <;> simp [hq]
theorem pks_len (s : Src) (l : List Prs) : (pksV s l).length ≤ s.length := by unfold pksV; exact List.length_filterMap_le _ _
theorem slook_some_mem {l : List Prs} {g v : Bs} (h : slook l g = some v) : (g, v) ∈ l := by
 rw [slook_find] at h
 obtain ⟨x, hx, rfl⟩ := Option.map_eq_some_iff.1 h
 have h1 := List.mem_of_find?_eq_some hx
 have h2 := List.find?_some hx
 simp only [decide_eq_true_eq] at h2
 rw [← h2]; exact h1
theorem slook_of_mem : ∀ {l : List Prs} {x : Prs}, (l.map (·.1)).Nodup → x ∈ l → slook l x.1 = some x.2
 | (k, v) :: l, x, hn, hx => by
  rw [List.map_cons, List.nodup_cons] at hn
  simp only [slook]
  rcases List.mem_cons.1 hx with rfl | hx
  ·simp
  ·rw [if_neg fun e : x.1 = k => hn.1 (List.mem_map.2 ⟨x, hx, e⟩)]
   exact slook_of_mem hn.2 hx
theorem pks_asc : ∀ {s : Src} {l : List Prs}, (s.Pairwise fun g k => Op.bytesLess g.1 k.1 = true) → Asc (pksV s l)
 | [], _, _ => List.Pairwise.nil
 | g :: s, l, h => by
  obtain ⟨h1, h2⟩ := List.pairwise_cons.1 h
  have ih := pks_asc (l := l) h2
  unfold pksV at ih ⊢
  rw [List.filterMap_cons]
  cases hq : slook l g.1 with
  | none => exact ih
  | some n =>
   simp only [Option.map_some]
   refine List.pairwise_cons.2 ⟨fun y hy => ?_, ih⟩
   obtain ⟨k, hk, e⟩ := List.mem_filterMap.1 hy
   obtain ⟨m, _, rfl⟩ := Option.map_eq_some_iff.1 e
   exact h1 k hk
theorem asc_ext {a b : List Prs} (ha : Asc a) (hb : Asc b) (h : ∀ x, x ∈ a ↔ x ∈ b) : a = b := by
 have nd : ∀ {l : List Prs}, Asc l → l.Nodup := fun h => h.imp fun {x y} q e => by rw [e, bl_irr] at q; cases q
 refine List.Perm.eq_of_pairwise (le := fun x y : Prs => Op.bytesLess x.1 y.1 = true) (fun x y _ _ q1 q2 => ?_) ha hb ((List.perm_ext_iff_of_nodup (nd ha) (nd hb)).2 h)
 have := bl_trans q1 q2
 rw [bl_irr] at this; cases this
theorem pks_srt {s : Src} {l : List Prs} (hs : suV s = true) (h : PickOk s l) : pksV s l = srtP l := by
 refine asc_ext (pks_asc (jZ hs)) (srt_asc h.2) fun x => ?_
 rw [jo]
 constructor
 ·intro hx
  obtain ⟨g, hg, e⟩ := List.mem_filterMap.1 hx
  obtain ⟨n, hn, rfl⟩ := Option.map_eq_some_iff.1 e
  exact slook_some_mem hn
 ·intro hx
  obtain ⟨g, hg, e, _⟩ := h.1 x hx
  refine List.mem_filterMap.2 ⟨g, hg, ?_⟩
  rw [e, slook_of_mem h.2 hx]; rfl
/-! picks of a source; solutions -/
theorem fnd_gem {s : Src} (hs : suV s = true) (p : Prs) : fndV s p = (match gemV s p.1 with | some g => g.2.find? (fun v => decide (v.1 = p.2)) | none => none) := by
 have ha := asc_ne (jZ hs)
 clear hs
 unfold fndV
 induction s with
 | nil => rfl
 | cons g s ih =>
  obtain ⟨h1, h2⟩ := List.pairwise_cons.1 ha
  rw [List.findSome?_cons]
  unfold gemV
  rw [List.find?_cons]
  by_cases e : g.1 = p.1
  ·have hn : s.findSome? (fndG p) = none := by
    rw [List.findSome?_eq_none_iff]
    intro k hk
    unfold fndG
    rw [if_neg fun q => h1 k hk (e.trans q.symm)]
   simp only [e, decide_true, fndG, if_true]
   cases hf : g.2.find? (fun v => decide (v.1 = p.2)) with
   | some v => rfl
   | none => simpa [fndG] using hn
  ·simp only [e, decide_false, fndG, if_false]
   exact ih h2
def pickS (s : Src) (l : List Prs) (i : Nat) : Bool := match l[i]? with
 | some p => (fndV s p).isSome && (decide (i = 0) || (match l[i - 1]? with | some y => Op.bytesLess y.1 p.1 | none => true))
 | none => true
def picksQ (s : Src) (l : List Prs) : Bool := upTo (pickS s l) l.length
theorem picks_step {s : Src} {l : List Prs} {i : Nat} {p : Prs} (h : l[i]? = some p) (ht : upTo (pickS s l) i = true) : upTo (pickS s l) (i + 1) = ((fndV s p).isSome && (decide (i = 0) || (match l[i - 1]? with | some y => Op.bytesLess y.1 p.1 | none => true))) := by
 rw [upTo_step ht]; unfold pickS; rw [h]
theorem asc_of_step {l : List Prs} (step : ∀ i g k, l[i]? = some g → l[i + 1]? = some k → Op.bytesLess g.1 k.1 = true) : Asc l := by
 unfold Asc
 rw [List.pairwise_iff_getElem]
 intro i j hi hj hij
 have key : ∀ d i (hi : i < l.length) (hj : i + d + 1 < l.length), Op.bytesLess l[i].1 l[i + d + 1].1 = true := by
  intro d
  induction d with
  | zero => intro i hi hj; exact step i _ _ (List.getElem?_eq_getElem hi) (List.getElem?_eq_getElem hj)
  | succ d ih =>
   intro i hi hj
   exact bl_trans (ih i hi (by omega)) (step (i + d + 1) _ _ (List.getElem?_eq_getElem (by omega)) (List.getElem?_eq_getElem hj))
 have := key (j - i - 1) i hi (by omega)
 have e : i + (j - i - 1) + 1 = j := by omega
 simp only [e] at this
 exact this
theorem Q4 {s : Src} {l : List Prs} (h : picksQ s l = true) : Asc l ∧ ∀ p ∈ l, ∃ v, fndV s p = some v := by
 unfold picksQ at h
 refine ⟨asc_of_step fun i g k hg hk => ?_, fun p hp => ?_⟩
 ·have := upTo_at h (List.getElem?_eq_some_iff.1 hk).1
  unfold pickS at this
  rw [hk] at this
  simp only [Bool.and_eq_true, Bool.or_eq_true, decide_eq_true_eq, Nat.add_sub_cancel, hg] at this
  rcases this.2 with q | q
  ·omega
  ·exact q
 ·obtain ⟨i, hi⟩ := List.getElem?_of_mem hp
  have := upTo_at h (List.getElem?_eq_some_iff.1 hi).1
  unfold pickS at this
  rw [hi] at this
  simp only [Bool.and_eq_true] at this
  exact Option.isSome_iff_exists.1 this.1
theorem picksQ_of {s : Src} {l : List Prs} (ha : Asc l) (h : ∀ p ∈ l, ∃ v, fndV s p = some v) : picksQ s l = true := by
 refine upTo_of fun i hi => ?_
 unfold pickS
 have hx := List.getElem?_eq_getElem hi
 rw [hx]
 obtain ⟨v, hv⟩ := h _ (List.getElem_mem hi)
 simp only [hv, Option.isSome_some, Bool.true_and, Bool.or_eq_true, decide_eq_true_eq]
 by_cases h0 : i = 0
 ·exact .inl h0
 ·right
  have hy := List.getElem?_eq_getElem (l := l) (i := i - 1) (by omega)
  rw [hy]
  exact asc_at ha h0 hx hy
theorem asc_nodup {l : List Prs} (h : Asc l) : (l.map (·.1)).Nodup := by
 rw [List.Nodup, List.pairwise_map]
 exact h.imp fun {x y} q e => by rw [e, bl_irr] at q; cases q
theorem picksQ_ok {s : Src} {l : List Prs} (h : picksQ s l = true) : PickOk s l := by
 obtain ⟨h1, h2⟩ := Q4 h
 refine ⟨fun x hx => ?_, asc_nodup h1⟩
 obtain ⟨v, hv⟩ := h2 x hx
 obtain ⟨g, a, b, c, d⟩ := jb hv
 exact ⟨g, a, b, v, c, d⟩
def lackN (l : List Prs) (n : Prs) : Bool := decide (pkdV l n.1 = []) || !meetsP (pkdV l n.1) n.2
def lackV (all l : List Prs) : List Prs := all.filter (lackN l)
theorem lack_step {all l : List Prs} {i : Nat} {n : Prs} (h : all[i]? = some n) : lackV (all.take (i + 1)) l = lackV (all.take i) l ++ (if lackN l n = true then [n] else []) := by
 unfold lackV
 rw [List.take_add_one, h, List.filter_append]
 cases hq : lackN l n <;> simp [hq]
theorem lack_len (all l : List Prs) : (lackV all l).length ≤ all.length := by unfold lackV; exact List.length_filter_le _ _
def ndedN (all : List Prs) (x : Prs) : Bool := all.any fun n => decide (n.1 = x.1)
def solQ (all l : List Prs) : Bool := l.all (ndedN all) && (lackV all l).isEmpty
def nset (l : List Prs) : Nat → List Bs
 | 0 => []
 | n + 1 => match l[n]? with
  | some p => if p.1 ∈ nset l n then nset l n else nset l n ++ [p.1]
  | none => nset l n
theorem nset_snoc {l : List Prs} {n : Nat} {p : Prs} (h : l[n]? = some p) : nset l (n + 1) = if p.1 ∈ nset l n then nset l n else nset l n ++ [p.1] := by simp only [nset, h]
theorem nset_nodup (l : List Prs) : ∀ n, (nset l n).Nodup
 | 0 => by simp [nset]
 | n + 1 => by
  have ih := nset_nodup l n
  unfold nset
  split
  ·split
   ·exact ih
   ·rename_i h
    rw [List.nodup_append]
    refine ⟨ih, by simp, fun a ha b hb => ?_⟩
    simp at hb; subst hb
    exact fun e => h (e ▸ ha)
  ·exact ih
theorem nset_mem {l : List Prs} {x : Bs} : ∀ {n : Nat}, x ∈ nset l n ↔ x ∈ (l.take n).map (·.1)
 | 0 => by simp [nset]
 | n + 1 => by
  have ih := nset_mem (l := l) (x := x) (n := n)
  unfold nset
  rw [List.take_add_one]
  cases hp : l[n]? with
  | none => simpa [hp] using ih
  | some p =>
   simp only [Option.toList_some, List.map_append, List.map_cons, List.map_nil, List.mem_append, List.mem_singleton]
   rw [← ih]
   split
   ·rename_i h
    constructor
    ·exact .inl
    ·rintro (q | rfl)
     ·exact q
     ·exact h
   ·simp
theorem nodup_len {a b : List Bs} (ha : a.Nodup) (h : a ⊆ b) : a.length ≤ b.length := ha.length_le_of_subset h
theorem nodup_ext {a b : List Bs} (ha : a.Nodup) (h : a ⊆ b) (hl : b.length ≤ a.length) : b ⊆ a := fun x hx => by
 by_cases hm : x ∈ a
 ·exact hm
 ·have := nodup_len (a := x :: a) (b := b) (List.nodup_cons.2 ⟨hm, ha⟩) (fun y hy => by
   rcases List.mem_cons.1 hy with rfl | hy
   ·exact hx
   ·exact h hy)
  simp only [List.length_cons] at this
  omega
theorem sol_count {all l : List Prs} (hn : (l.map (·.1)).Nodup) (hk : NumOk l) : ((lackV all l).isEmpty && decide ((nset all all.length).length = l.length)) = solQ all l := by
 unfold solQ
 cases he : (lackV all l).isEmpty with
 | false => simp
 | true =>
  simp only [Bool.true_and, Bool.and_true]
  have hsub : nset all all.length ⊆ l.map (·.1) := fun x hx => by
   rw [nset_mem, List.take_length] at hx
   obtain ⟨n, hn1, rfl⟩ := List.mem_map.1 hx
   have hl : lackN l n = false := by
    have := List.filter_eq_nil_iff.1 (List.isEmpty_iff.1 he) n hn1
    simpa using this
   unfold lackN at hl
   simp only [Bool.or_eq_false_iff, decide_eq_false_iff_not] at hl
   cases hf : l.find? (fun x => decide (x.1 = n.1)) with
   | none => exact absurd ((pkd_none hk).2 hf) hl.1
   | some x =>
    have h1 := List.mem_of_find?_eq_some hf
    have h2 := List.find?_some hf
    simp only [decide_eq_true_eq] at h2
    exact List.mem_map.2 ⟨x, h1, h2⟩
  have hnd := nset_nodup all all.length
  have hle := nodup_len hnd hsub
  simp only [List.length_map] at hle
  rw [Bool.eq_iff_iff, decide_eq_true_eq, List.all_eq_true]
  constructor
  ·intro e x hx
   have := nodup_ext hnd hsub (by simp; omega) (List.mem_map.2 ⟨x, hx, rfl⟩)
   rw [nset_mem, List.take_length] at this
   obtain ⟨n, hn1, hn2⟩ := List.mem_map.1 this
   unfold ndedN
   rw [List.any_eq_true]
   exact ⟨n, hn1, by simpa using hn2⟩
  ·intro h
   have : l.map (·.1) ⊆ nset all all.length := fun y hy => by
    obtain ⟨x, hx, rfl⟩ := List.mem_map.1 hy
    have := h x hx
    unfold ndedN at this
    rw [List.any_eq_true] at this
    obtain ⟨n, hn1, hn2⟩ := this
    rw [nset_mem, List.take_length]
    exact List.mem_map.2 ⟨n, hn1, by simpa using hn2⟩
   have := nodup_len hn this
   simp only [List.length_map] at this
   omega
/-! what the search finds is a solution; where there is one it finds one; budgets -/
theorem fnd_of {s : Src} (hs : suV s = true) {g : Gm} {v : Vrs} (hg : g ∈ s) (hv : v ∈ g.2) : fndV s (g.1, v.1) = some v := by
 rw [fnd_gem hs]
 simp only [ZO hs hg]
 have hr := kU ((qW hs).2 g hg).2
 generalize g.2 = l at *
 clear hg
 induction l with
 | nil => cases hv
 | cons x l ih =>
  rw [List.find?_cons]
  obtain ⟨h1, h2⟩ := List.pairwise_cons.1 hr.2
  rcases List.mem_cons.1 hv with rfl | hv'
  ·simp
  ·have : x.1 ≠ v.1 := fun e => by
    have := h1 v hv'
    rw [e] at this
    have := ku v.1 v.1
    omega
   simp only [decide_eq_true_eq, this, decide_false]
   exact ih hv' ⟨fun y hy => hr.1 y (by simp [hy]), h2⟩
theorem Qi {s : Src} (hs : suV s = true) {g : Gm} {v : Vrs} (hg : g ∈ s) (hv : v ∈ g.2) : fndP s (g.1, v.1) = v := by unfold fndP; rw [fnd_of hs hg hv]; rfl
theorem allN_mem' {s : Src} {w l : List Prs} {n : Prs} : n ∈ allN s w l ↔ n ∈ w ∨ ∃ p ∈ l, n ∈ (fndP s p).2 := by simp [allN, List.mem_append, List.mem_flatMap]
structure Fine (s : Src) (w l : List Prs) : Prop where
 ok : PickOk s l
 met : ∀ n ∈ allN s w l, pkdV l n.1 ≠ [] → meetsP (pkdV l n.1) n.2 = true
 need : ∀ p ∈ l, ∃ n ∈ allN s w l, n.1 = p.1
theorem fine_nil (s : Src) (w : List Prs) : Fine s w [] := ⟨⟨by simp, by simp⟩, fun n _ h => absurd rfl h, by simp⟩
theorem fine_snoc {s : Src} {w l : List Prs} {n : Prs} {v : Vrs} (hs : suV s = true) (h : Fine s w l) (hn : n ∈ allN s w l) (hp : pkdV l n.1 = []) (hv : v ∈ candV s w l n.1) : Fine s w (l ++ [(n.1, v.1)]) := by
 have hno := pickOk_num hs h.ok
 obtain ⟨g, hg, e, hvg⟩ := xZ hv
 have hf : fitV (allN s w l) l n.1 v = true := by
  rw [cand_eq hs] at hv
  split at hv
  ·exact (List.mem_filter.1 hv).2
  ·cases hv
 unfold fitV at hf
 rw [Bool.and_eq_true, List.all_eq_true, List.all_eq_true] at hf
 have hfp : fndP s (n.1, v.1) = v := by rw [← e]; exact Qi hs hg hvg
 have hall : allN s w (l ++ [(n.1, v.1)]) = allN s w l ++ v.2 := by rw [allN_snoc, hfp]
 have hfn := (pkd_none hno).1 hp
 have hv0 : v.1 ≠ [] := jR ((zh ((qW hs).2 g hg).2).2 v hvg).1
 refine ⟨pickOk_snoc hs h.ok hp ⟨g, hg, e, hvg⟩, fun m hm hne => ?_, fun p hp => ?_⟩
 ·rw [hall] at hm
  rcases List.mem_append.1 hm with hm | hm
  ·rw [pkd_app] at hne ⊢
   split
   ·rename_i h0
    rw [if_pos h0] at hne
    by_cases e2 : n.1 = m.1
    ·rw [if_pos e2]
     have := hf.1 m hm
     unfold aFit at this
     simpa [e2] using this
    ·rw [if_neg e2] at hne; exact absurd rfl hne
   ·rename_i h0
    rw [if_neg h0] at hne
    exact h.met m hm hne
  ·have := hf.2 m hm
   unfold bFit at this
   simpa [hne] using this
 ·rw [hall]
  rcases List.mem_append.1 hp with hp | hp
  ·obtain ⟨m, hm, e2⟩ := h.need p hp
   exact ⟨m, List.mem_append.2 (.inl hm), e2⟩
  ·simp at hp; subst hp
   exact ⟨n, List.mem_append.2 (.inl hn), rfl⟩
theorem tryL_P {rec : List Prs → Nat → (List Prs × Nat) × Nat} {bud : Nat} {gem : Bs} {l : List Prs} {P : (List Prs × Nat) × Nat → Prop} (h3 : ∀ t, P (([], 3), t)) (h12 : ∀ t, P (([], 12), t)) :
  ∀ (c : List Vrs) (t : Nat), (∀ v ∈ c, ∀ t, P (rec (l ++ [(gem, v.1)]) t)) → P (tryL rec bud gem l c t)
 | [], t, _ => h3 t
 | v :: r, t, h => by
  unfold tryL
  split
  ·exact h12 _
  ·split
   ·exact h v (by simp) _
   ·exact tryL_P h3 h12 r _ fun x hx => h x (by simp [hx])
structure Sol (s : Src) (w l : List Prs) : Prop where
 ok : PickOk s l
 met : ∀ n ∈ allN s w l, lackN l n = false
 need : ∀ p ∈ l, ∃ n ∈ allN s w l, n.1 = p.1
theorem rest_sol {s : Src} {w : List Prs} {bud : Nat} (hs : suV s = true) : ∀ f l t, Fine s w l → (restV s w bud f l t).1.2 = 0 → Sol s w (restV s w bud f l t).1.1 ∧ ∃ x, (restV s w bud f l t).1.1 = l ++ x
 | 0, l, t, _ => fun h => by simp [restV] at h
 | f + 1, l, t, hF => by
  unfold restV
  split
  ·rename_i hn
   intro _
   have hno := pickOk_num hs hF.ok
   refine ⟨⟨hF.ok, fun n hn1 => ?_, hF.need⟩, [], by simp⟩
   have h1 := List.find?_eq_none.1 hn n hn1
   unfold freeN at h1
   have h1 : pkdV l n.1 ≠ [] := by simpa using h1
   unfold lackN
   simp [h1, hF.met n hn1 h1]
  ·rename_i n hn
   have hp := List.find?_some hn
   unfold freeN at hp
   simp only [decide_eq_true_eq] at hp
   have hm := List.mem_of_find?_eq_some hn
   refine tryL_P (P := fun q => q.1.2 = 0 → Sol s w q.1.1 ∧ ∃ x, q.1.1 = l ++ x) (fun t h => by simp at h) (fun t h => by simp at h) _ _ fun v hv t h0 => ?_
   obtain ⟨h1, x, h2⟩ := rest_sol hs f _ t (fine_snoc hs hF hm hp hv) h0
   exact ⟨h1, _, by rw [h2, List.append_assoc]⟩
structure Sat (s : Src) (w : List Prs) (σ : Bs → Option Bs) : Prop where
 wish : ∀ n ∈ w, ∃ v, σ n.1 = some v ∧ meetsP v n.2 = true
 need : ∀ g v, σ g = some v → ∃ V, fndV s (g, v) = some V ∧ ∀ n ∈ V.2, ∃ u, σ n.1 = some u ∧ meetsP u n.2 = true
theorem Sat.sub {s : Src} {w w' : List Prs} {σ : Bs → Option Bs} (h : Sat s w σ) (hw : ∀ n ∈ w', n ∈ w) : Sat s w' σ := ⟨fun n hn => h.wish n (hw n hn), h.need⟩
theorem Sat.all {s : Src} {w l : List Prs} {σ : Bs → Option Bs} (h : Sat s w σ) (hl : ∀ p ∈ l, σ p.1 = some p.2) {n : Prs} (hn : n ∈ allN s w l) : ∃ v, σ n.1 = some v ∧ meetsP v n.2 = true := by
 rcases allN_mem'.1 hn with hn | ⟨p, hp, hn⟩
 ·exact h.wish n hn
 ·obtain ⟨V, hV, hm⟩ := h.need p.1 p.2 (hl p hp)
  have : fndP s p = V := by unfold fndP; rw [show p = (p.1, p.2) from rfl, hV]; rfl
  rw [this] at hn
  exact hm n hn
theorem Sat.cand {s : Src} {w l : List Prs} {σ : Bs → Option Bs} (hs : suV s = true) (h : Sat s w σ) (ho : PickOk s l) (hl : ∀ p ∈ l, σ p.1 = some p.2) {gem v : Bs} (hg : σ gem = some v) (hp : pkdV l gem = []) :
  ∃ V, V.1 = v ∧ V ∈ candV s w l gem := by
 obtain ⟨V, hV, hm⟩ := h.need gem v hg
 obtain ⟨g, g1, g2, g3, g4⟩ := jb hV
 simp only at g2 g4
 refine ⟨V, g4, ?_⟩
 have hgem : gemV s gem = some g := by rw [← g2]; exact ZO hs g1
 rw [cand_eq hs, hgem]
 refine List.mem_filter.2 ⟨srtD_mem.2 g3, ?_⟩
 have hno := pickOk_num hs ho
 have hv0 : V.1 ≠ [] := jR ((zh ((qW hs).2 g g1).2).2 V g3).1
 unfold fitV
 rw [Bool.and_eq_true, List.all_eq_true, List.all_eq_true]
 refine ⟨fun m hm' => ?_, fun m hm' => ?_⟩
 ·unfold aFit
  by_cases e : m.1 = gem
  ·obtain ⟨u, hu, hmu⟩ := h.all hl hm'
   rw [e, hg] at hu
   simp only [Option.some.injEq] at hu
   rw [g4, hu, hmu]; simp
  ·simp [e]
 ·rw [bFit_eq hno hp hv0]
  obtain ⟨u, hu, hmu⟩ := hm m hm'
  unfold oneN
  by_cases e : m.1 = gem
  ·rw [if_pos e]
   rw [e, hg] at hu
   simp only [Option.some.injEq] at hu
   simp only [g4, hu, hmu]
  ·rw [if_neg e]
   cases hq : slook l m.1 with
   | none => rfl
   | some o =>
    have := hl _ (slook_some_mem hq)
    simp only at this
    rw [hu] at this
    simp only [Option.some.injEq] at this
    simp only [← this, hmu]
theorem rest_err {s : Src} {w : List Prs} {bud : Nat} : ∀ f l t, (restV s w bud f l t).1.2 ≠ 0 → (restV s w bud f l t).1.1 = []
 | 0, l, t => fun _ => rfl
 | f + 1, l, t => by
  unfold restV
  split
  ·intro h; simp at h
  ·rename_i n hn
   exact tryL_P (P := fun q => q.1.2 ≠ 0 → q.1.1 = []) (fun _ _ => rfl) (fun _ _ => rfl) _ _ fun v _ t => rest_err f _ t
/-! the whole search -/
theorem solQ_iff {all l : List Prs} : solQ all l = true ↔ (∀ p ∈ l, ∃ n ∈ all, n.1 = p.1) ∧ ∀ n ∈ all, lackN l n = false := by
 unfold solQ lackV
 rw [Bool.and_eq_true, List.all_eq_true, List.isEmpty_iff, List.filter_eq_nil_iff]
 refine and_congr (forall_congr' fun p => imp_congr_right fun hp => ?_) (forall_congr' fun n => imp_congr_right fun hn => by simp)
 unfold ndedN
 rw [List.any_eq_true]
 simp
theorem pkd_of_mem {l : List Prs} (h : (l.map (·.1)).Nodup) {x : Prs} (hx : x ∈ l) : pkdV l x.1 = x.2 := by
 have := slook_of_mem h hx
 rw [slook_find] at this
 unfold pkdV
 rw [this]; rfl
theorem pkd_not {l : List Prs} {n : Bs} (h : n ∉ l.map (·.1)) : pkdV l n = [] := by
 unfold pkdV
 cases hf : l.find? (fun x => decide (x.1 = n)) with
 | none => rfl
 | some x =>
  have h1 := List.mem_of_find?_eq_some hf
  have h2 := List.find?_some hf
  simp only [decide_eq_true_eq] at h2
  exact absurd (List.mem_map.2 ⟨x, h1, h2⟩) h
theorem pkd_perm {l m : List Prs} (h : (l.map (·.1)).Nodup) (hm : (m.map (·.1)).Nodup) (e : ∀ x, x ∈ l ↔ x ∈ m) (n : Bs) : pkdV l n = pkdV m n := by
 by_cases q : n ∈ l.map (·.1)
 ·obtain ⟨x, hx, rfl⟩ := List.mem_map.1 q
  rw [pkd_of_mem h hx, pkd_of_mem hm ((e x).1 hx)]
 ·rw [pkd_not q, pkd_not fun q' => by
   obtain ⟨x, hx, rfl⟩ := List.mem_map.1 q'
   exact q (List.mem_map.2 ⟨x, (e x).2 hx, rfl⟩)]
theorem Sol.perm {s : Src} {w l m : List Prs} (h : Sol s w l) (hm : (m.map (·.1)).Nodup) (e : ∀ x, x ∈ l ↔ x ∈ m) : Sol s w m := by
 have ha : ∀ n, n ∈ allN s w m ↔ n ∈ allN s w l := fun n => by
  rw [allN_mem', allN_mem']
  constructor
  ·rintro (q | ⟨p, hp, q⟩)
   ·exact .inl q
   ·exact .inr ⟨p, (e p).2 hp, q⟩
  ·rintro (q | ⟨p, hp, q⟩)
   ·exact .inl q
   ·exact .inr ⟨p, (e p).1 hp, q⟩
 refine ⟨⟨fun x hx => h.ok.1 x ((e x).2 hx), hm⟩, fun n hn => ?_, fun p hp => ?_⟩
 ·have := h.met n ((ha n).1 hn)
  unfold lackN at this ⊢
  rw [← pkd_perm h.ok.2 hm e]; exact this
 ·obtain ⟨n, hn, q⟩ := h.need p ((e p).2 hp)
  exact ⟨n, (ha n).2 hn, q⟩
theorem srt_nodup {l : List Prs} (h : (l.map (·.1)).Nodup) : ((srtP l).map (·.1)).Nodup := asc_nodup (srt_asc h)
theorem Qv {s : Src} {w : List Prs} {b : Int} (h0 : (solV s w b).2.2 = 0) : Sol s w (solV s w b).1 := by
 obtain ⟨hc, h1, h2⟩ := xx h0
 have hs : suV s = true := by unfold chkV at hc; rw [Bool.and_eq_true] at hc; exact hc.1
 unfold solV at h0 ⊢
 rw [if_pos ⟨hc, h1, h2⟩] at h0 ⊢
 obtain ⟨q, _⟩ := rest_sol hs (s.length + 1) [] 0 (fine_nil s w) h0
 exact q.perm (srt_nodup q.ok.2) fun x => jo.symm
/-! Why, Tries, Newer, Order -/
theorem upTo_iff {f : Nat → Bool} {n : Nat} : upTo f n = true ↔ ∀ i, i < n → f i = true := ⟨fun h i hi => upTo_at h hi, upTo_of⟩
theorem Qc {m : Nat} {l : List Prs} : nuV m l = true ↔ l.length ≤ m ∧ (∀ x ∈ l, nameV x.1 = true ∧ (condsV x.2).isSome = true) ∧ l.Pairwise fun y x => y.1 ≠ x.1 := by
 constructor
 ·intro h
  refine ⟨(zH h).1, (zH h).2, ?_⟩
  have := jy h
  rwa [List.Nodup, List.pairwise_map] at this
 ·rintro ⟨h1, h2, h3⟩
  unfold nuV
  rw [Bool.and_eq_true, decide_eq_true_eq]
  refine ⟨h1, upTo_of fun i hi => ?_⟩
  unfold nuAt
  have hx := List.getElem?_eq_getElem hi
  rw [hx]
  obtain ⟨a, b⟩ := h2 _ (List.getElem_mem hi)
  simp only [a, b, Bool.and_self, Bool.true_and]
  refine upTo_of fun k hk => ?_
  unfold apartAt
  have hy := List.getElem?_eq_getElem (l := l) (i := k) (by omega)
  rw [hy]
  simpa using List.pairwise_iff_getElem.1 h3 k i (by omega) hi hk
/-! locks: which of them hold; keeping versions -/
theorem JL {l : List Vrs} : vuV l = true ↔ l.length ≤ 12 ∧ (∀ x ∈ l, (readV x.1).isSome = true ∧ nuV 6 x.2 = true) ∧ l.Pairwise fun y x => compareP y.1 x.1 ≠ 0 := by
 constructor
 ·intro h
  refine ⟨(zh h).1, (zh h).2, ?_⟩
  have hr := kU h
  refine List.Pairwise.imp_of_mem (fun {a b} ha hb q => ?_) hr.2
  rw [Qj (hr.1 a ha) (hr.1 b hb)]; exact q
 ·rintro ⟨h1, h2, h3⟩
  unfold vuV
  rw [Bool.and_eq_true, decide_eq_true_eq]
  refine ⟨h1, upTo_of fun i hi => ?_⟩
  unfold vuAt
  have hx := List.getElem?_eq_getElem hi
  rw [hx]
  obtain ⟨a, b⟩ := h2 _ (List.getElem_mem hi)
  simp only [a, b, Bool.and_self, Bool.true_and]
  refine upTo_of fun k hk => ?_
  unfold rankAt
  have hy := List.getElem?_eq_getElem (l := l) (i := k) (by omega)
  rw [hy]
  simpa using List.pairwise_iff_getElem.1 h3 k i (by omega) hi hk
theorem JK {l k : List Vrs} (h : vuV l = true) (hs : k.Sublist l) : vuV k = true := by
 rw [JL] at h ⊢
 exact ⟨Nat.le_trans hs.length_le h.1, fun x hx => h.2.1 x (hs.subset hx), h.2.2.sublist hs⟩
theorem JR {s : Src} : suV s = true ↔ s.length ≤ 15 ∧ (∀ g ∈ s, nameV g.1 = true ∧ vuV g.2 = true) ∧ s.Pairwise fun g k => Op.bytesLess g.1 k.1 = true := by
 constructor
 ·intro h
  exact ⟨(qW h).1, (qW h).2, jZ h⟩
 ·rintro ⟨h1, h2, h3⟩
  unfold suV
  rw [Bool.and_eq_true, decide_eq_true_eq]
  refine ⟨h1, upTo_of fun i hi => ?_⟩
  unfold suAt
  have hx := List.getElem?_eq_getElem hi
  rw [hx]
  obtain ⟨a, b⟩ := h2 _ (List.getElem_mem hi)
  simp only [a, b, Bool.true_and, Bool.and_true, Bool.or_eq_true, decide_eq_true_eq]
  by_cases h0 : i = 0
  ·exact .inl h0
  ·right
   have hy := List.getElem?_eq_getElem (l := s) (i := i - 1) (by omega)
   rw [hy]
   exact List.pairwise_iff_getElem.1 h3 (i - 1) i (by omega) hi (by omega)
theorem ZJ {s : Src} (f : Gm → Gm) (hn : ∀ g, (f g).1 = g.1) (hv : ∀ g, (f g).2.Sublist g.2) (h : suV s = true) : suV (s.map f) = true := by
 rw [JR] at h ⊢
 refine ⟨by simpa using h.1, fun g hg => ?_, ?_⟩
 ·obtain ⟨k, hk, rfl⟩ := List.mem_map.1 hg
  obtain ⟨a, b⟩ := h.2.1 k hk
  exact ⟨by rw [hn]; exact a, JK b (hv k)⟩
 ·rw [List.pairwise_map]
  exact h.2.2.imp fun {a b} q => by rw [hn, hn]; exact q
theorem fnd_map {s : Src} (f : Gm → Gm) (hn : ∀ g, (f g).1 = g.1) (hv : ∀ g, (f g).2.Sublist g.2) (h : suV s = true) {p : Prs} {v : Vrs} (hp : fndV (s.map f) p = some v) : fndV s p = some v := by
 obtain ⟨g, hg, a, b, c⟩ := jb hp
 obtain ⟨k, hk, rfl⟩ := List.mem_map.1 hg
 have := fnd_of h hk ((hv k).subset b)
 rw [hn] at a
 rw [show p = (k.1, v.1) by rw [a, c]]
 exact this
theorem Sol.map {s : Src} (f : Gm → Gm) (hn : ∀ g, (f g).1 = g.1) (hv : ∀ g, (f g).2.Sublist g.2) (hs : suV s = true) {w l : List Prs} (h : Sol (s.map f) w l) : Sol s w l ∧ ∀ p ∈ l, fndP (s.map f) p = fndP s p := by
 have hf : ∀ p ∈ l, fndP (s.map f) p = fndP s p := fun p hp => by
  obtain ⟨g, hg, a, v, b, c⟩ := h.ok.1 p hp
  have := fnd_of (ZJ f hn hv hs) hg b
  rw [show (g.1, v.1) = p by rw [a, c]] at this
  have h2 := fnd_map f hn hv hs this
  unfold fndP
  rw [this, h2]
 have ha : allN (s.map f) w l = allN s w l := by
  unfold allN
  congr 1
  rw [List.flatMap_def, List.flatMap_def]
  congr 1
  exact List.map_congr_left fun p hp => by rw [hf p hp]
 refine ⟨⟨⟨fun x hx => ?_, h.ok.2⟩, fun n hn' => h.met n (ha ▸ hn'), fun p hp => ?_⟩, hf⟩
 ·obtain ⟨g, hg, a, v, b, c⟩ := h.ok.1 x hx
  obtain ⟨k, hk, rfl⟩ := List.mem_map.1 hg
  exact ⟨k, hk, by rw [← hn k]; exact a, v, (hv k).subset b, c⟩
 ·rw [← ha]; exact h.need p hp
def keepG (P : List Prs) (gem : Bs) (g : Gm) : Gm := match P.find? (fun p => decide (p.1 = g.1 ∧ g.1 ≠ gem)) with
 | some p => (g.1, g.2.filter fun v => decide (v.1 = p.2))
 | none => g
def keptV (s : Src) (P : List Prs) (gem : Bs) : Src := s.map (keepG P gem)
theorem keepG_nm (P : List Prs) (gem : Bs) (g : Gm) : (keepG P gem g).1 = g.1 := by unfold keepG; split <;> rfl
theorem keepG_sub (P : List Prs) (gem : Bs) (g : Gm) : (keepG P gem g).2.Sublist g.2 := by
 unfold keepG; split
 ·exact List.filter_sublist
 ·exact List.Sublist.refl _
theorem kept_su {s : Src} (h : suV s = true) (P : List Prs) (gem : Bs) : suV (keptV s P gem) = true := ZJ _ (keepG_nm P gem) (keepG_sub P gem) h
def updV (s : Src) (L : Lck) (gem : Bs) (b : Int) : Lck × Nat :=
 if suV s = true ∧ lockV L = true then
  (if (ofV (keptV s L.1 gem) L.2.2 b).2 = 3 then ofV s L.2.2 b else ofV (keptV s L.1 gem) L.2.2 b)
 else (lk0, 1)
def heldP (s : Src) (L : Lck) (i : Nat) : Bool := match L.1[i]?, L.2.1[i]? with
 | some p, some r => (fndV s p).isSome && decide (ownV s p = r)
 | _, _ => true
def heldV (s : Src) (L : Lck) : Bool × Nat :=
 if suV s = true ∧ lockV L = true then (upTo (heldP s L) L.1.length && solQ (allN s L.2.2 L.1) L.1, 0) else (false, 1)
theorem held_step {s : Src} {L : Lck} {i : Nat} {p : Prs} {r : List Prs} (h1 : L.1[i]? = some p) (h2 : L.2.1[i]? = some r) (ht : upTo (heldP s L) i = true) : upTo (heldP s L) (i + 1) = ((fndV s p).isSome && decide (ownV s p = r)) := by
 rw [upTo_step ht]; unfold heldP; rw [h1, h2]
theorem Zt {m : Nat} {l : List Prs} (h : needsV m l = true) : Asc l := by
 unfold needsV at h
 rw [Bool.and_eq_true] at h
 have key : ∀ n, needTo l n = true → ∀ i, i < n → needAt l i = true := by
  intro n
  induction n with
  | zero => intro _ i hi; omega
  | succ n ih =>
   intro h i hi
   rw [needTo, Bool.and_eq_true] at h
   by_cases e : i = n
   ·subst e; exact h.2
   ·exact ih h.1 i (by omega)
 refine asc_of_step fun i g k hg hk => ?_
 have := key _ h.1 (i + 1) (List.getElem?_eq_some_iff.1 hk).1
 unfold needAt at this
 rw [hk] at this
 simp only [Nat.add_sub_cancel, hg] at this
 simp only [Bool.and_eq_true, Bool.or_eq_true, decide_eq_true_eq] at this
 rcases this.2 with q | q
 ·omega
 ·exact q
theorem wQ {m : Nat} {l : List Prs} (h : needsV m l = true) : nuV m l = true := by
 rw [Qc]
 exact ⟨vC h, kJ h, (Zt h).imp fun {x y} q e => by rw [e, bl_irr] at q; cases q⟩
theorem lock_chk {s : Src} {L : Lck} (hs : suV s = true) (h : lockV L = true) : chkV s L.2.2 = true := by
 unfold chkV
 rw [hs, wQ (zD h).2.2.1]; rfl
theorem sol_held {s : Src} {L : Lck} (hs : suV s = true) (hL : lockV L = true) (hN : L.2.1 = L.1.map (ownV s)) (h : Sol s L.2.2 L.1) : heldV s L = (true, 0) := by
 unfold heldV
 rw [if_pos ⟨hs, hL⟩]
 have h1 : upTo (heldP s L) L.1.length = true := upTo_of fun i hi => by
  unfold heldP
  have hx := List.getElem?_eq_getElem hi
  rw [hN, List.getElem?_map, hx]
  simp only [Option.map_some]
  obtain ⟨g, hg, a, v, b, c⟩ := h.ok.1 _ (List.getElem_mem hi)
  have := fnd_of hs hg b
  rw [show (g.1, v.1) = L.1[i] by rw [a, c]] at this
  simp [this]
 rw [h1, solQ_iff.2 ⟨h.need, h.met⟩]; rfl
theorem Sol.wish {s : Src} {w w' l : List Prs} (h : Sol s w l) (e : ∀ x, x ∈ w ↔ x ∈ w') : Sol s w' l := by
 have ha : ∀ n, n ∈ allN s w l ↔ n ∈ allN s w' l := fun n => by rw [allN_mem', allN_mem', e]
 exact ⟨h.ok, fun n hn => h.met n ((ha n).2 hn), fun p hp => by
  obtain ⟨n, hn, q⟩ := h.need p hp
  exact ⟨n, (ha n).1 hn, q⟩⟩
theorem of_held {s : Src} {w : List Prs} {b : Int} (h : (ofV s w b).2 = 0) : heldV s (ofV s w b).1 = (true, 0) := by
 have hL := Qa h
 unfold ofV at h hL ⊢
 split at h
 ·rename_i h0
  rw [if_pos h0] at hL ⊢
  have hc := (xx h0).1
  unfold chkV at hc
  rw [Bool.and_eq_true] at hc
  exact sol_held hc.1 hL rfl ((Qv h0).wish fun x => jo.symm)
 ·rename_i h0
  exact absurd h h0
/-! what the program's walks ask -/
theorem apart_nset {l : List Prs} {x : Prs} {i : Nat} (hi : i ≤ l.length) : upTo (apartAt l x) i = !decide (x.1 ∈ nset l i) := by
 rw [Bool.eq_iff_iff, upTo_iff]
 simp only [Bool.not_eq_true', decide_eq_false_iff_not, nset_mem]
 constructor
 ·intro h hm
  obtain ⟨y, hy, e⟩ := List.mem_map.1 hm
  obtain ⟨k, hk⟩ := List.getElem?_of_mem hy
  rw [List.getElem?_take] at hk
  split at hk
  ·rename_i hki
   have := h k hki
   unfold apartAt at this
   rw [hk] at this
   simp only [decide_eq_true_eq] at this
   exact this e
  ·cases hk
 ·intro h k hk
  unfold apartAt
  cases hy : l[k]? with
  | none => rfl
  | some y =>
   simp only [decide_eq_true_eq]
   intro e
   refine h (List.mem_map.2 ⟨y, ?_, e⟩)
   refine List.mem_of_getElem? (i := k) ?_
   rw [List.getElem?_take, if_pos hk]; exact hy
def rankAt' (l : List Vrs) (x : Vrs) (k : Nat) : Bool := match l[k]? with
 | some y => decide (compareP x.1 y.1 ≠ 0)
 | none => true
theorem Jf (x y : Bs) : compareP x y = -compareP y x := by
 unfold compareP
 by_cases h : ((readV x).isSome && (readV y).isSome) = true
 ·rw [if_pos h, if_pos (by rw [Bool.and_comm]; exact h)]; exact ku x y
 ·rw [if_neg h, if_neg (by rw [Bool.and_comm]; exact h)]; rfl
theorem rank_eq (l : List Vrs) (x : Vrs) : rankAt l x = rankAt' l x := by
 funext k
 unfold rankAt rankAt'
 cases l[k]? with
 | none => rfl
 | some y =>
  have := Jf x.1 y.1
  simp only [decide_eq_decide]
  omega
theorem rank_step' {l : List Vrs} {x y : Vrs} {k : Nat} (h : l[k]? = some y) (ht : upTo (rankAt l x) k = true) : upTo (rankAt l x) (k + 1) = decide (compareP x.1 y.1 ≠ 0) := by
 rw [rank_eq] at ht ⊢
 rw [upTo_step ht]; unfold rankAt'; rw [h]
def nextV (N l : List Prs) : Bs := ((N.find? fun n => (slook l n.1).isNone).map (·.1)).getD []
theorem next_step {N l : List Prs} {i : Nat} {n : Prs} (h : N[i]? = some n) : (N.drop i).find? (fun n => (slook l n.1).isNone) = if slook l n.1 = none then some n else (N.drop (i + 1)).find? (fun n => (slook l n.1).isNone) := by
 rw [drop_cons h, List.find?_cons]
 by_cases e : slook l n.1 = none
 ·rw [if_pos e]; simp [e]
 ·rw [if_neg e]
  have : (slook l n.1).isNone = false := by cases hq : slook l n.1 <;> simp_all
  simp [this]
theorem next_free {N l : List Prs} (h : NumOk l) : N.find? (fun n => (slook l n.1).isNone) = N.find? (freeN l) := by
 congr 1
 funext n
 unfold freeN
 rw [slook_pkd h]
 split <;> simp_all
def cntG (s : Src) (n : Bs) : Nat := s.countP fun g => Op.bytesLess g.1 n
theorem cnt_split : ∀ {s : Src} {n : Bs}, (s.Pairwise fun g k => Op.bytesLess g.1 k.1 = true) → (∀ i g, s[i]? = some g → (i < cntG s n ↔ Op.bytesLess g.1 n = true))
 | [], n, _, i, g, h => by simp at h
 | x :: s, n, hp, i, g, h => by
  obtain ⟨h1, h2⟩ := List.pairwise_cons.1 hp
  have ih := cnt_split (n := n) h2
  unfold cntG at ih ⊢
  rw [List.countP_cons]
  cases hx : Op.bytesLess x.1 n with
  | true =>
   simp only [if_true]
   cases i with
   | zero =>
    simp only [List.getElem?_cons_zero, Option.some.injEq] at h
    subst h
    simp [hx]
   | succ i =>
    simp only [List.getElem?_cons_succ] at h
    have := ih i g h
    rw [← this]; omega
  | false =>
   have hz : s.countP (fun g => Op.bytesLess g.1 n) = 0 := by
    rw [List.countP_eq_zero]
    intro y hy hl
    have := bl_trans (h1 y hy) hl
    rw [hx] at this; cases this
   simp only [Bool.false_eq_true, if_false, hz, Nat.add_zero]
   cases i with
   | zero =>
    simp only [List.getElem?_cons_zero, Option.some.injEq] at h
    subst h
    simp [hx]
   | succ i =>
    simp only [List.getElem?_cons_succ] at h
    have hg := List.mem_of_getElem? h
    have := bl_trans (h1 g hg) (c := n)
    constructor
    ·intro q; omega
    ·intro q; rw [hx] at this; exact absurd (this q) (by simp)
theorem cnt_le (s : Src) (n : Bs) : cntG s n ≤ s.length := List.countP_le_length
theorem cnt_find {s : Src} {n : Bs} (hs : s.Pairwise fun g k => Op.bytesLess g.1 k.1 = true) : gemV s n = (match s[cntG s n]? with | some g => if g.1 = n then some g else none | none => none) := by
 have hsp := cnt_split (n := n) hs
 unfold gemV
 cases hf : s.find? (fun g => decide (g.1 = n)) with
 | none =>
  cases hc : s[cntG s n]? with
  | none => rfl
  | some g =>
   have := List.find?_eq_none.1 hf g (List.mem_of_getElem? hc)
   simp only [decide_eq_true_eq] at this
   simp only [if_neg this]
 | some g =>
  have h1 := List.mem_of_find?_eq_some hf
  have h2 := List.find?_some hf
  simp only [decide_eq_true_eq] at h2
  obtain ⟨i, hi⟩ := List.getElem?_of_mem h1
  have hle : ¬ i < cntG s n := fun q => by
   have := (hsp i g hi).1 q
   rw [h2, bl_irr] at this; cases this
  have hil := (List.getElem?_eq_some_iff.1 hi).1
  have hcl : cntG s n < s.length := by omega
  obtain ⟨k, hc⟩ : ∃ k, s[cntG s n]? = some k := ⟨_, List.getElem?_eq_getElem hcl⟩
  rw [hc]
  have e : i = cntG s n := by
   rcases Nat.lt_or_ge (cntG s n) i with q | q
   ·have h3 := List.pairwise_iff_getElem.1 hs (cntG s n) i hcl hil q
    rw [(List.getElem?_eq_some_iff.1 hi).2, (List.getElem?_eq_some_iff.1 hc).2, h2] at h3
    have := (hsp _ _ hc).2 h3
    omega
   ·omega
  subst e
  rw [hi] at hc
  simp only [Option.some.injEq] at hc
  rw [← hc]
  simp only [if_pos h2]
end Go.Lk
set_option linter.unusedSectionVars false
namespace Go.Eng
variable {P : Program} [HasGlob P]
structure RowFrm (w w' : World) (v : Value) : Prop where
 os : w'.os = w.os
 tape : w'.tape = w.tape
 output : w'.output = w.output
 size : w.heap.size ≤ w'.heap.size
 rest : ∀ k, k < w.heap.size → v.ownBlock ≠ some k → w'.heap[k]? = w.heap[k]?
variable {P : Program} [HasGlob P] {n : Nat} {S : St} {Q : Exit → St → Prop}
end Go.Eng
