/- Part of a proof: see the last text. -/
import Derived.Test.YteekfnhhlcmcgaaGreatDoorG08
import Derived.Test.YteekfnhhlcmcgaaGreatDoorG05
import Derived.Lib.OwnBridge
import Derived.Sort.OwnSorted
import Derived.Sort.Grow
import Derived.Test.YteekfnhhlcmcgaaGreatDoorG07
set_option linter.unusedVariables false
set_option linter.unusedSimpArgs false
set_option maxRecDepth 20000
namespace Go.Lk
open Go.Lib Go.Wh Go.Ver
/-! what the search finds is a solution; where there is one it finds one; budgets -/
theorem fnd_of {s : Src} (hs : suV s = true) {g : Gm} {v : Vrs} (hg : g ∈ s) (hv : v ∈ g.2) : fndV s (g.1, v.1) = some v := by
 rw [fnd_gem hs]
 simp only [gemV_of hs hg]
 have hr := vuV_rank ((suV_parts hs).2 g hg).2
 generalize g.2 = l at *
 clear hg
 induction l with
 | nil => cases hv
 | cons x l ih =>
  rw [List.find?_cons]
  obtain ⟨h1, h2⟩ := List.pairwise_cons.1 hr.2
  rcases List.mem_cons.1 hv with rfl | hv'
  ·simp
  ·have : x.1 ≠ v.1 := fun e => by
    have := h1 v hv'
    rw [e] at this
    have := cV_sym v.1 v.1
    omega
   simp only [decide_eq_true_eq, this, decide_false]
   exact ih hv' ⟨fun y hy => hr.1 y (by simp [hy]), h2⟩
theorem fndP_of {s : Src} (hs : suV s = true) {g : Gm} {v : Vrs} (hg : g ∈ s) (hv : v ∈ g.2) : fndP s (g.1, v.1) = v := by unfold fndP; rw [fnd_of hs hg hv]; rfl
theorem allN_mem' {s : Src} {w l : List Prs} {n : Prs} : n ∈ allN s w l ↔ n ∈ w ∨ ∃ p ∈ l, n ∈ (fndP s p).2 := by simp [allN, List.mem_append, List.mem_flatMap]
structure Fine (s : Src) (w l : List Prs) : Prop where
 ok : PickOk s l
 met : ∀ n ∈ allN s w l, pkdV l n.1 ≠ [] → meetsP (pkdV l n.1) n.2 = true
 need : ∀ p ∈ l, ∃ n ∈ allN s w l, n.1 = p.1
theorem fine_nil (s : Src) (w : List Prs) : Fine s w [] := ⟨⟨by simp, by simp⟩, fun n _ h => absurd rfl h, by simp⟩
theorem fine_snoc {s : Src} {w l : List Prs} {n : Prs} {v : Vrs} (hs : suV s = true) (h : Fine s w l) (hn : n ∈ allN s w l) (hp : pkdV l n.1 = []) (hv : v ∈ candV s w l n.1) : Fine s w (l ++ [(n.1, v.1)]) := by
 have hno := pickOk_num hs h.ok
 obtain ⟨g, hg, e, hvg⟩ := candV_mem hv
 have hf : fitV (allN s w l) l n.1 v = true := by
  rw [cand_eq hs] at hv
  split at hv
  ·exact (List.mem_filter.1 hv).2
  ·cases hv
 unfold fitV at hf
 rw [Bool.and_eq_true, List.all_eq_true, List.all_eq_true] at hf
 have hfp : fndP s (n.1, v.1) = v := by rw [← e]; exact fndP_of hs hg hvg
 have hall : allN s w (l ++ [(n.1, v.1)]) = allN s w l ++ v.2 := by rw [allN_snoc, hfp]
 have hfn := (pkd_none hno).1 hp
 have hv0 : v.1 ≠ [] := readV_ne ((vuV_parts ((suV_parts hs).2 g hg).2).2 v hvg).1
 refine ⟨pickOk_snoc hs h.ok hp ⟨g, hg, e, hvg⟩, fun m hm hne => ?_, fun p hp => ?_⟩
 ·rw [hall] at hm
  rcases List.mem_append.1 hm with hm | hm
  ·rw [pkd_app] at hne ⊢
   split
   ·rename_i h0
    rw [if_pos h0] at hne
    by_cases e2 : n.1 = m.1
    ·rw [if_pos e2]
     have := hf.1 m hm
     unfold aFit at this
     simpa [e2] using this
    ·rw [if_neg e2] at hne; exact absurd rfl hne
   ·rename_i h0
    rw [if_neg h0] at hne
    exact h.met m hm hne
  ·have := hf.2 m hm
   unfold bFit at this
   simpa [hne] using this
 ·rw [hall]
  rcases List.mem_append.1 hp with hp | hp
  ·obtain ⟨m, hm, e2⟩ := h.need p hp
   exact ⟨m, List.mem_append.2 (.inl hm), e2⟩
  ·simp at hp; subst hp
   exact ⟨n, List.mem_append.2 (.inl hn), rfl⟩
theorem tryL_P {rec : List Prs → Nat → (List Prs × Nat) × Nat} {bud : Nat} {gem : Bs} {l : List Prs} {P : (List Prs × Nat) × Nat → Prop} (h3 : ∀ t, P (([], 3), t)) (h12 : ∀ t, P (([], 12), t)) :
  ∀ (c : List Vrs) (t : Nat), (∀ v ∈ c, ∀ t, P (rec (l ++ [(gem, v.1)]) t)) → P (tryL rec bud gem l c t)
 | [], t, _ => h3 t
 | v :: r, t, h => by
  unfold tryL
  split
  ·exact h12 _
  ·split
   ·exact h v (by simp) _
   ·exact tryL_P h3 h12 r _ fun x hx => h x (by simp [hx])
structure Sol (s : Src) (w l : List Prs) : Prop where
 ok : PickOk s l
 met : ∀ n ∈ allN s w l, lackN l n = false
 need : ∀ p ∈ l, ∃ n ∈ allN s w l, n.1 = p.1
theorem rest_sol {s : Src} {w : List Prs} {bud : Nat} (hs : suV s = true) : ∀ f l t, Fine s w l → (restV s w bud f l t).1.2 = 0 → Sol s w (restV s w bud f l t).1.1 ∧ ∃ x, (restV s w bud f l t).1.1 = l ++ x
 | 0, l, t, _ => fun h => by simp [restV] at h
 | f + 1, l, t, hF => by
  unfold restV
  split
  ·rename_i hn
   intro _
   have hno := pickOk_num hs hF.ok
   refine ⟨⟨hF.ok, fun n hn1 => ?_, hF.need⟩, [], by simp⟩
   have h1 := List.find?_eq_none.1 hn n hn1
   unfold freeN at h1
   have h1 : pkdV l n.1 ≠ [] := by simpa using h1
   unfold lackN
   simp [h1, hF.met n hn1 h1]
  ·rename_i n hn
   have hp := List.find?_some hn
   unfold freeN at hp
   simp only [decide_eq_true_eq] at hp
   have hm := List.mem_of_find?_eq_some hn
   refine tryL_P (P := fun q => q.1.2 = 0 → Sol s w q.1.1 ∧ ∃ x, q.1.1 = l ++ x) (fun t h => by simp at h) (fun t h => by simp at h) _ _ fun v hv t h0 => ?_
   obtain ⟨h1, x, h2⟩ := rest_sol hs f _ t (fine_snoc hs hF hm hp hv) h0
   exact ⟨h1, _, by rw [h2, List.append_assoc]⟩
structure Sat (s : Src) (w : List Prs) (σ : Bs → Option Bs) : Prop where
 wish : ∀ n ∈ w, ∃ v, σ n.1 = some v ∧ meetsP v n.2 = true
 need : ∀ g v, σ g = some v → ∃ V, fndV s (g, v) = some V ∧ ∀ n ∈ V.2, ∃ u, σ n.1 = some u ∧ meetsP u n.2 = true
theorem Sat.sub {s : Src} {w w' : List Prs} {σ : Bs → Option Bs} (h : Sat s w σ) (hw : ∀ n ∈ w', n ∈ w) : Sat s w' σ := ⟨fun n hn => h.wish n (hw n hn), h.need⟩
theorem Sat.all {s : Src} {w l : List Prs} {σ : Bs → Option Bs} (h : Sat s w σ) (hl : ∀ p ∈ l, σ p.1 = some p.2) {n : Prs} (hn : n ∈ allN s w l) : ∃ v, σ n.1 = some v ∧ meetsP v n.2 = true := by
 rcases allN_mem'.1 hn with hn | ⟨p, hp, hn⟩
 ·exact h.wish n hn
 ·obtain ⟨V, hV, hm⟩ := h.need p.1 p.2 (hl p hp)
  have : fndP s p = V := by unfold fndP; rw [show p = (p.1, p.2) from rfl, hV]; rfl
  rw [this] at hn
  exact hm n hn
theorem Sat.cand {s : Src} {w l : List Prs} {σ : Bs → Option Bs} (hs : suV s = true) (h : Sat s w σ) (ho : PickOk s l) (hl : ∀ p ∈ l, σ p.1 = some p.2) {gem v : Bs} (hg : σ gem = some v) (hp : pkdV l gem = []) :
  ∃ V, V.1 = v ∧ V ∈ candV s w l gem := by
 obtain ⟨V, hV, hm⟩ := h.need gem v hg
 obtain ⟨g, g1, g2, g3, g4⟩ := fndV_mem hV
 simp only at g2 g4
 refine ⟨V, g4, ?_⟩
 have hgem : gemV s gem = some g := by rw [← g2]; exact gemV_of hs g1
 rw [cand_eq hs, hgem]
 refine List.mem_filter.2 ⟨srtD_mem.2 g3, ?_⟩
 have hno := pickOk_num hs ho
 have hv0 : V.1 ≠ [] := readV_ne ((vuV_parts ((suV_parts hs).2 g g1).2).2 V g3).1
 unfold fitV
 rw [Bool.and_eq_true, List.all_eq_true, List.all_eq_true]
 refine ⟨fun m hm' => ?_, fun m hm' => ?_⟩
 ·unfold aFit
  by_cases e : m.1 = gem
  ·obtain ⟨u, hu, hmu⟩ := h.all hl hm'
   rw [e, hg] at hu
   simp only [Option.some.injEq] at hu
   rw [g4, hu, hmu]; simp
  ·simp [e]
 ·rw [bFit_eq hno hp hv0]
  obtain ⟨u, hu, hmu⟩ := hm m hm'
  unfold oneN
  by_cases e : m.1 = gem
  ·rw [if_pos e]
   rw [e, hg] at hu
   simp only [Option.some.injEq] at hu
   simp only [g4, hu, hmu]
  ·rw [if_neg e]
   cases hq : slook l m.1 with
   | none => rfl
   | some o =>
    have := hl _ (slook_some_mem hq)
    simp only at this
    rw [hu] at this
    simp only [Option.some.injEq] at this
    simp only [← this, hmu]
theorem tryL_no3 {rec : List Prs → Nat → (List Prs × Nat) × Nat} {bud : Nat} {gem : Bs} {l : List Prs} {V : Vrs} (h : ∀ t, (rec (l ++ [(gem, V.1)]) t).1.2 ≠ 3) : ∀ (c : List Vrs) (t : Nat), V ∈ c → (tryL rec bud gem l c t).1.2 ≠ 3
 | [], t, hV => by cases hV
 | v :: r, t, hV => by
  unfold tryL
  split
  ·simp
  ·split
   ·rename_i q; exact q
   ·rename_i q
    rcases List.mem_cons.1 hV with rfl | hV
    ·exact absurd (h _) q
    ·exact tryL_no3 h r _ hV
theorem rest_no3 {s : Src} {w : List Prs} {bud : Nat} {σ : Bs → Option Bs} (hs : suV s = true) (h : Sat s w σ) : ∀ f l t, PickOk s l → (∀ p ∈ l, σ p.1 = some p.2) → muV s l < f → (restV s w bud f l t).1.2 ≠ 3
 | 0, l, t, _, _, hf => absurd hf (by omega)
 | f + 1, l, t, ho, hl, hf => by
  unfold restV
  split
  ·simp
  ·rename_i n hn
   have hp := List.find?_some hn
   unfold freeN at hp
   simp only [decide_eq_true_eq] at hp
   have hm := List.mem_of_find?_eq_some hn
   obtain ⟨v, hv, _⟩ := h.all hl hm
   obtain ⟨V, rfl, hc⟩ := h.cand hs ho hl hv hp
   obtain ⟨g, g1, g2, g3⟩ := candV_mem hc
   have hno := pickOk_num hs ho
   have hv0 : V.1 ≠ [] := readV_ne ((vuV_parts ((suV_parts hs).2 g g1).2).2 V g3).1
   have hmu := mu_lt hno hv0 ⟨g, g1, g2⟩ hp
   refine tryL_no3 (V := V) (fun t => rest_no3 hs h f _ t (pickOk_snoc hs ho hp ⟨g, g1, g2, g3⟩) (fun p hp => ?_) (by omega)) _ _ hc
   rcases List.mem_append.1 hp with q | q
   ·exact hl p q
   ·simp at q; subst q; exact hv
theorem rest_err {s : Src} {w : List Prs} {bud : Nat} : ∀ f l t, (restV s w bud f l t).1.2 ≠ 0 → (restV s w bud f l t).1.1 = []
 | 0, l, t => fun _ => rfl
 | f + 1, l, t => by
  unfold restV
  split
  ·intro h; simp at h
  ·rename_i n hn
   exact tryL_P (P := fun q => q.1.2 ≠ 0 → q.1.1 = []) (fun _ _ => rfl) (fun _ _ => rfl) _ _ fun v _ t => rest_err f _ t
/-! the whole search -/
theorem solQ_iff {all l : List Prs} : solQ all l = true ↔ (∀ p ∈ l, ∃ n ∈ all, n.1 = p.1) ∧ ∀ n ∈ all, lackN l n = false := by
 unfold solQ lackV
 rw [Bool.and_eq_true, List.all_eq_true, List.isEmpty_iff, List.filter_eq_nil_iff]
 refine and_congr (forall_congr' fun p => imp_congr_right fun hp => ?_) (forall_congr' fun n => imp_congr_right fun hn => by simp)
 unfold ndedN
 rw [List.any_eq_true]
 simp
theorem pkd_of_mem {l : List Prs} (h : (l.map (·.1)).Nodup) {x : Prs} (hx : x ∈ l) : pkdV l x.1 = x.2 := by
 have := slook_of_mem h hx
 rw [slook_find] at this
 unfold pkdV
 rw [this]; rfl
theorem pkd_not {l : List Prs} {n : Bs} (h : n ∉ l.map (·.1)) : pkdV l n = [] := by
 unfold pkdV
 cases hf : l.find? (fun x => decide (x.1 = n)) with
 | none => rfl
 | some x =>
  have h1 := List.mem_of_find?_eq_some hf
  have h2 := List.find?_some hf
  simp only [decide_eq_true_eq] at h2
  exact absurd (List.mem_map.2 ⟨x, h1, h2⟩) h
theorem pkd_perm {l m : List Prs} (h : (l.map (·.1)).Nodup) (hm : (m.map (·.1)).Nodup) (e : ∀ x, x ∈ l ↔ x ∈ m) (n : Bs) : pkdV l n = pkdV m n := by
 by_cases q : n ∈ l.map (·.1)
 ·obtain ⟨x, hx, rfl⟩ := List.mem_map.1 q
  rw [pkd_of_mem h hx, pkd_of_mem hm ((e x).1 hx)]
 ·rw [pkd_not q, pkd_not fun q' => by
   obtain ⟨x, hx, rfl⟩ := List.mem_map.1 q'
   exact q (List.mem_map.2 ⟨x, (e x).2 hx, rfl⟩)]
theorem Sol.perm {s : Src} {w l m : List Prs} (h : Sol s w l) (hm : (m.map (·.1)).Nodup) (e : ∀ x, x ∈ l ↔ x ∈ m) : Sol s w m := by
 have ha : ∀ n, n ∈ allN s w m ↔ n ∈ allN s w l := fun n => by
  rw [allN_mem', allN_mem']
  constructor
  ·rintro (q | ⟨p, hp, q⟩)
   ·exact .inl q
   ·exact .inr ⟨p, (e p).2 hp, q⟩
  ·rintro (q | ⟨p, hp, q⟩)
   ·exact .inl q
   ·exact .inr ⟨p, (e p).1 hp, q⟩
 refine ⟨⟨fun x hx => h.ok.1 x ((e x).2 hx), hm⟩, fun n hn => ?_, fun p hp => ?_⟩
 ·have := h.met n ((ha n).1 hn)
  unfold lackN at this ⊢
  rw [← pkd_perm h.ok.2 hm e]; exact this
 ·obtain ⟨n, hn, q⟩ := h.need p ((e p).2 hp)
  exact ⟨n, (ha n).2 hn, q⟩
theorem srt_nodup {l : List Prs} (h : (l.map (·.1)).Nodup) : ((srtP l).map (·.1)).Nodup := asc_nodup (srt_asc h)
theorem solV_sol {s : Src} {w : List Prs} {b : Int} (h0 : (solV s w b).2.2 = 0) : Sol s w (solV s w b).1 := by
 obtain ⟨hc, h1, h2⟩ := solV_chk h0
 have hs : suV s = true := by unfold chkV at hc; rw [Bool.and_eq_true] at hc; exact hc.1
 unfold solV at h0 ⊢
 rw [if_pos ⟨hc, h1, h2⟩] at h0 ⊢
 obtain ⟨q, _⟩ := rest_sol hs (s.length + 1) [] 0 (fine_nil s w) h0
 exact q.perm (srt_nodup q.ok.2) fun x => srtP_mem.symm
theorem Sol.sat {s : Src} {w l : List Prs} (hs : suV s = true) (h : Sol s w l) : Sat s w (slook l) ∧ ∀ p ∈ l, slook l p.1 = some p.2 := by
 have hno := pickOk_num hs h.ok
 have met : ∀ n ∈ allN s w l, ∃ v, slook l n.1 = some v ∧ meetsP v n.2 = true := fun n hn => by
  have := h.met n hn
  unfold lackN at this
  simp only [Bool.or_eq_false_iff, decide_eq_false_iff_not, Bool.not_eq_false'] at this
  exact ⟨_, by rw [slook_pkd hno, if_neg this.1], this.2⟩
 refine ⟨⟨fun n hn => met n (allN_mem'.2 (.inl hn)), fun g v hg => ?_⟩, fun p hp => slook_of_mem h.ok.2 hp⟩
 have hm := slook_some_mem hg
 obtain ⟨k, k1, k2, V, k3, k4⟩ := h.ok.1 _ hm
 simp only at k2 k4
 refine ⟨V, by rw [← k2, ← k4]; exact fnd_of hs k1 k3, fun n hn => met n (allN_mem'.2 (.inr ⟨_, hm, ?_⟩))⟩
 rw [← k2, ← k4, fndP_of hs k1 k3]; exact hn
theorem solV_no3 {s : Src} {w : List Prs} {b : Int} {σ : Bs → Option Bs} (h : Sat s w σ) : (solV s w b).2.2 ≠ 3 := by
 unfold solV
 split
 ·rename_i q
  have hs : suV s = true := by have := q.1; unfold chkV at this; rw [Bool.and_eq_true] at this; exact this.1
  have := mu_le s []
  exact rest_no3 hs h _ [] 0 ⟨by simp, by simp⟩ (by simp) (by omega)
 ·simp
theorem solV_codes {s : Src} {w : List Prs} {b : Int} (hc : chkV s w = true) (h1 : 1 ≤ b) (h2 : b ≤ 100000) : ((solV s w b).2.2 = 0 ∨ (solV s w b).2.2 = 3 ∨ (solV s w b).2.2 = 12) ∧ ((solV s w b).2.2 = 12 ∨ ((solV s w b).2.1 : Int) ≤ b) := by
 unfold solV
 rw [if_pos ⟨hc, h1, h2⟩]
 have := restV_tlk s w b.toNat (s.length + 1) [] 0 (by omega)
 refine ⟨this.2.2.2, ?_⟩
 rcases this.2.2.1 with q | q
 ·exact .inl q
 ·right; simp only; omega
/-! Why, Tries, Newer, Order -/
theorem upTo_iff {f : Nat → Bool} {n : Nat} : upTo f n = true ↔ ∀ i, i < n → f i = true := ⟨fun h i hi => upTo_at h hi, upTo_of⟩
theorem nuV_iff {m : Nat} {l : List Prs} : nuV m l = true ↔ l.length ≤ m ∧ (∀ x ∈ l, nameV x.1 = true ∧ (condsV x.2).isSome = true) ∧ l.Pairwise fun y x => y.1 ≠ x.1 := by
 constructor
 ·intro h
  refine ⟨(nuV_parts h).1, (nuV_parts h).2, ?_⟩
  have := nuV_nodup h
  rwa [List.Nodup, List.pairwise_map] at this
 ·rintro ⟨h1, h2, h3⟩
  unfold nuV
  rw [Bool.and_eq_true, decide_eq_true_eq]
  refine ⟨h1, upTo_of fun i hi => ?_⟩
  unfold nuAt
  have hx := List.getElem?_eq_getElem hi
  rw [hx]
  obtain ⟨a, b⟩ := h2 _ (List.getElem_mem hi)
  simp only [a, b, Bool.and_self, Bool.true_and]
  refine upTo_of fun k hk => ?_
  unfold apartAt
  have hy := List.getElem?_eq_getElem (l := l) (i := k) (by omega)
  rw [hy]
  simpa using List.pairwise_iff_getElem.1 h3 k i (by omega) hi hk
/-! locks: which of them hold; keeping versions -/
theorem vuV_iff {l : List Vrs} : vuV l = true ↔ l.length ≤ 12 ∧ (∀ x ∈ l, (readV x.1).isSome = true ∧ nuV 6 x.2 = true) ∧ l.Pairwise fun y x => compareP y.1 x.1 ≠ 0 := by
 constructor
 ·intro h
  refine ⟨(vuV_parts h).1, (vuV_parts h).2, ?_⟩
  have hr := vuV_rank h
  refine List.Pairwise.imp_of_mem (fun {a b} ha hb q => ?_) hr.2
  rw [cmpP_cV (hr.1 a ha) (hr.1 b hb)]; exact q
 ·rintro ⟨h1, h2, h3⟩
  unfold vuV
  rw [Bool.and_eq_true, decide_eq_true_eq]
  refine ⟨h1, upTo_of fun i hi => ?_⟩
  unfold vuAt
  have hx := List.getElem?_eq_getElem hi
  rw [hx]
  obtain ⟨a, b⟩ := h2 _ (List.getElem_mem hi)
  simp only [a, b, Bool.and_self, Bool.true_and]
  refine upTo_of fun k hk => ?_
  unfold rankAt
  have hy := List.getElem?_eq_getElem (l := l) (i := k) (by omega)
  rw [hy]
  simpa using List.pairwise_iff_getElem.1 h3 k i (by omega) hi hk
theorem vuV_sub {l k : List Vrs} (h : vuV l = true) (hs : k.Sublist l) : vuV k = true := by
 rw [vuV_iff] at h ⊢
 exact ⟨Nat.le_trans hs.length_le h.1, fun x hx => h.2.1 x (hs.subset hx), h.2.2.sublist hs⟩
theorem suV_iff {s : Src} : suV s = true ↔ s.length ≤ 15 ∧ (∀ g ∈ s, nameV g.1 = true ∧ vuV g.2 = true) ∧ s.Pairwise fun g k => Op.bytesLess g.1 k.1 = true := by
 constructor
 ·intro h
  exact ⟨(suV_parts h).1, (suV_parts h).2, suV_asc h⟩
 ·rintro ⟨h1, h2, h3⟩
  unfold suV
  rw [Bool.and_eq_true, decide_eq_true_eq]
  refine ⟨h1, upTo_of fun i hi => ?_⟩
  unfold suAt
  have hx := List.getElem?_eq_getElem hi
  rw [hx]
  obtain ⟨a, b⟩ := h2 _ (List.getElem_mem hi)
  simp only [a, b, Bool.true_and, Bool.and_true, Bool.or_eq_true, decide_eq_true_eq]
  by_cases h0 : i = 0
  ·exact .inl h0
  ·right
   have hy := List.getElem?_eq_getElem (l := s) (i := i - 1) (by omega)
   rw [hy]
   exact List.pairwise_iff_getElem.1 h3 (i - 1) i (by omega) hi (by omega)
theorem suV_map {s : Src} (f : Gm → Gm) (hn : ∀ g, (f g).1 = g.1) (hv : ∀ g, (f g).2.Sublist g.2) (h : suV s = true) : suV (s.map f) = true := by
 rw [suV_iff] at h ⊢
 refine ⟨by simpa using h.1, fun g hg => ?_, ?_⟩
 ·obtain ⟨k, hk, rfl⟩ := List.mem_map.1 hg
  obtain ⟨a, b⟩ := h.2.1 k hk
  exact ⟨by rw [hn]; exact a, vuV_sub b (hv k)⟩
 ·rw [List.pairwise_map]
  exact h.2.2.imp fun {a b} q => by rw [hn, hn]; exact q
theorem fnd_map {s : Src} (f : Gm → Gm) (hn : ∀ g, (f g).1 = g.1) (hv : ∀ g, (f g).2.Sublist g.2) (h : suV s = true) {p : Prs} {v : Vrs} (hp : fndV (s.map f) p = some v) : fndV s p = some v := by
 obtain ⟨g, hg, a, b, c⟩ := fndV_mem hp
 obtain ⟨k, hk, rfl⟩ := List.mem_map.1 hg
 have := fnd_of h hk ((hv k).subset b)
 rw [hn] at a
 rw [show p = (k.1, v.1) by rw [a, c]]
 exact this
theorem fnd_back {s : Src} (f : Gm → Gm) (hn : ∀ g, (f g).1 = g.1) (hv : ∀ g, (f g).2.Sublist g.2) (h : suV s = true) {g : Gm} {v : Vrs} (hg : g ∈ s) (hm : v ∈ (f g).2) : fndV (s.map f) (g.1, v.1) = some v := by
 have := fnd_of (suV_map f hn hv h) (g := f g) (v := v) (List.mem_map.2 ⟨g, hg, rfl⟩) hm
 rwa [hn] at this
theorem Sol.map {s : Src} (f : Gm → Gm) (hn : ∀ g, (f g).1 = g.1) (hv : ∀ g, (f g).2.Sublist g.2) (hs : suV s = true) {w l : List Prs} (h : Sol (s.map f) w l) : Sol s w l ∧ ∀ p ∈ l, fndP (s.map f) p = fndP s p := by
 have hf : ∀ p ∈ l, fndP (s.map f) p = fndP s p := fun p hp => by
  obtain ⟨g, hg, a, v, b, c⟩ := h.ok.1 p hp
  have := fnd_of (suV_map f hn hv hs) hg b
  rw [show (g.1, v.1) = p by rw [a, c]] at this
  have h2 := fnd_map f hn hv hs this
  unfold fndP
  rw [this, h2]
 have ha : allN (s.map f) w l = allN s w l := by
  unfold allN
  congr 1
  rw [List.flatMap_def, List.flatMap_def]
  congr 1
  exact List.map_congr_left fun p hp => by rw [hf p hp]
 refine ⟨⟨⟨fun x hx => ?_, h.ok.2⟩, fun n hn' => h.met n (ha ▸ hn'), fun p hp => ?_⟩, hf⟩
 ·obtain ⟨g, hg, a, v, b, c⟩ := h.ok.1 x hx
  obtain ⟨k, hk, rfl⟩ := List.mem_map.1 hg
  exact ⟨k, hk, by rw [← hn k]; exact a, v, (hv k).subset b, c⟩
 ·rw [← ha]; exact h.need p hp
def keepG (P : List Prs) (gem : Bs) (g : Gm) : Gm := match P.find? (fun p => decide (p.1 = g.1 ∧ g.1 ≠ gem)) with
 | some p => (g.1, g.2.filter fun v => decide (v.1 = p.2))
 | none => g
def keptV (s : Src) (P : List Prs) (gem : Bs) : Src := s.map (keepG P gem)
theorem keepG_nm (P : List Prs) (gem : Bs) (g : Gm) : (keepG P gem g).1 = g.1 := by unfold keepG; split <;> rfl
theorem keepG_sub (P : List Prs) (gem : Bs) (g : Gm) : (keepG P gem g).2.Sublist g.2 := by
 unfold keepG; split
 ·exact List.filter_sublist
 ·exact List.Sublist.refl _
theorem kept_su {s : Src} (h : suV s = true) (P : List Prs) (gem : Bs) : suV (keptV s P gem) = true := suV_map _ (keepG_nm P gem) (keepG_sub P gem) h
def updV (s : Src) (L : Lck) (gem : Bs) (b : Int) : Lck × Nat :=
 if suV s = true ∧ lockV L = true then
  (if (ofV (keptV s L.1 gem) L.2.2 b).2 = 3 then ofV s L.2.2 b else ofV (keptV s L.1 gem) L.2.2 b)
 else (lk0, 1)
def heldP (s : Src) (L : Lck) (i : Nat) : Bool := match L.1[i]?, L.2.1[i]? with
 | some p, some r => (fndV s p).isSome && decide (ownV s p = r)
 | _, _ => true
def heldV (s : Src) (L : Lck) : Bool × Nat :=
 if suV s = true ∧ lockV L = true then (upTo (heldP s L) L.1.length && solQ (allN s L.2.2 L.1) L.1, 0) else (false, 1)
theorem held_step {s : Src} {L : Lck} {i : Nat} {p : Prs} {r : List Prs} (h1 : L.1[i]? = some p) (h2 : L.2.1[i]? = some r) (ht : upTo (heldP s L) i = true) : upTo (heldP s L) (i + 1) = ((fndV s p).isSome && decide (ownV s p = r)) := by
 rw [upTo_step ht]; unfold heldP; rw [h1, h2]
theorem needsV_asc {m : Nat} {l : List Prs} (h : needsV m l = true) : Asc l := by
 unfold needsV at h
 rw [Bool.and_eq_true] at h
 have key : ∀ n, needTo l n = true → ∀ i, i < n → needAt l i = true := by
  intro n
  induction n with
  | zero => intro _ i hi; omega
  | succ n ih =>
   intro h i hi
   rw [needTo, Bool.and_eq_true] at h
   by_cases e : i = n
   ·subst e; exact h.2
   ·exact ih h.1 i (by omega)
 refine asc_of_step fun i g k hg hk => ?_
 have := key _ h.1 (i + 1) (List.getElem?_eq_some_iff.1 hk).1
 unfold needAt at this
 rw [hk] at this
 simp only [Nat.add_sub_cancel, hg] at this
 simp only [Bool.and_eq_true, Bool.or_eq_true, decide_eq_true_eq] at this
 rcases this.2 with q | q
 ·omega
 ·exact q
theorem needsV_nu {m : Nat} {l : List Prs} (h : needsV m l = true) : nuV m l = true := by
 rw [nuV_iff]
 exact ⟨needsV_len h, needsV_each h, (needsV_asc h).imp fun {x y} q e => by rw [e, bl_irr] at q; cases q⟩
theorem lock_chk {s : Src} {L : Lck} (hs : suV s = true) (h : lockV L = true) : chkV s L.2.2 = true := by
 unfold chkV
 rw [hs, needsV_nu (lockV_parts h).2.2.1]; rfl
theorem sol_held {s : Src} {L : Lck} (hs : suV s = true) (hL : lockV L = true) (hN : L.2.1 = L.1.map (ownV s)) (h : Sol s L.2.2 L.1) : heldV s L = (true, 0) := by
 unfold heldV
 rw [if_pos ⟨hs, hL⟩]
 have h1 : upTo (heldP s L) L.1.length = true := upTo_of fun i hi => by
  unfold heldP
  have hx := List.getElem?_eq_getElem hi
  rw [hN, List.getElem?_map, hx]
  simp only [Option.map_some]
  obtain ⟨g, hg, a, v, b, c⟩ := h.ok.1 _ (List.getElem_mem hi)
  have := fnd_of hs hg b
  rw [show (g.1, v.1) = L.1[i] by rw [a, c]] at this
  simp [this]
 rw [h1, solQ_iff.2 ⟨h.need, h.met⟩]; rfl
theorem Sol.wish {s : Src} {w w' l : List Prs} (h : Sol s w l) (e : ∀ x, x ∈ w ↔ x ∈ w') : Sol s w' l := by
 have ha : ∀ n, n ∈ allN s w l ↔ n ∈ allN s w' l := fun n => by rw [allN_mem', allN_mem', e]
 exact ⟨h.ok, fun n hn => h.met n ((ha n).2 hn), fun p hp => by
  obtain ⟨n, hn, q⟩ := h.need p hp
  exact ⟨n, (ha n).1 hn, q⟩⟩
theorem upd_law {s : Src} {w : List Prs} {b : Int} {name : Bs} (hb1 : 1 ≤ b) (hb2 : b ≤ 100000) (h : (ofV s w b).2 = 0) :
  ((updV s (ofV s w b).1 name b).2 = 12 ∨ (updV s (ofV s w b).1 name b).2 = 0) ∧ ((updV s (ofV s w b).1 name b).2 = 0 → heldV s (updV s (ofV s w b).1 name b).1 = (true, 0) ∧
   ∀ x ∈ (updV s (ofV s w b).1 name b).1.1, ∀ y ∈ (ofV s w b).1.1, x.1 = y.1 → x.1 ≠ name → x.2 = y.2) := by
 have hL := ofV_ok h
 have h0 : (solV s w b).2.2 = 0 := by
  unfold ofV at h
  split at h
  ·assumption
  ·exact h
 obtain ⟨hc, _, _⟩ := solV_chk h0
 have hs : suV s = true := by unfold chkV at hc; rw [Bool.and_eq_true] at hc; exact hc.1
 have hsol := solV_sol h0
 obtain ⟨hsat, hlk⟩ := hsol.sat hs
 have e1 : (ofV s w b).1 = ((solV s w b).1, (solV s w b).1.map (ownV s), srtP w) := by unfold ofV; rw [if_pos h0]
 rw [e1] at hL ⊢
 generalize hP : (solV s w b).1 = P at *
 have hk := kept_su hs P name
 have hck := lock_chk hk hL
 simp only at hck
 
 have hsatk : Sat (keptV s P name) (srtP w) (slook P) := by
  refine ⟨fun n hn => hsat.wish n (srtP_mem.1 hn), fun g v hg => ?_⟩
  obtain ⟨V, hV, hm⟩ := hsat.need g v hg
  refine ⟨V, ?_, hm⟩
  obtain ⟨k, k1, k2, k3, k4⟩ := fndV_mem hV
  simp only at k2 k4
  have hin : V ∈ (keepG P name k).2 := by
   unfold keepG
   split
   ·rename_i p hp
    have p1 := List.mem_of_find?_eq_some hp
    have p2 := List.find?_some hp
    simp only [decide_eq_true_eq] at p2
    refine List.mem_filter.2 ⟨k3, ?_⟩
    have := hlk p p1
    rw [p2.1, k2, hg] at this
    simp only [Option.some.injEq] at this
    simp [k4, this]
   ·exact k3
  have := fnd_back _ (keepG_nm P name) (keepG_sub P name) hs k1 hin
  rw [k2, k4] at this
  exact this
 have hn3 := solV_no3 (b := b) hsatk
 have hcd := (solV_codes hck hb1 hb2).1
 have e2 : updV s (P, P.map (ownV s), srtP w) name b = ofV (keptV s P name) (srtP w) b := by
  unfold updV
  rw [if_pos ⟨hs, hL⟩]
  simp only
  rw [if_neg]
  unfold ofV
  split
  ·simp
  ·exact hn3
 rw [e2]
 have e3 : (ofV (keptV s P name) (srtP w) b).2 = (solV (keptV s P name) (srtP w) b).2.2 := by
  unfold ofV
  split
  ·rename_i q; exact q.symm
  ·rfl
 refine ⟨by rw [e3]; omega, fun hz => ?_⟩
 have hz' := hz
 rw [e3] at hz'
 have hs2 := solV_sol hz'
 obtain ⟨hs3, hfe⟩ := hs2.map _ (keepG_nm P name) (keepG_sub P name) hs
 have hL2 := ofV_ok hz
 have e4 : (ofV (keptV s P name) (srtP w) b).1 = ((solV (keptV s P name) (srtP w) b).1, (solV (keptV s P name) (srtP w) b).1.map (ownV (keptV s P name)), srtP (srtP w)) := by unfold ofV; rw [if_pos hz']
 rw [e4] at hL2 ⊢
 generalize (solV (keptV s P name) (srtP w) b).1 = Q at *
 refine ⟨sol_held hs hL2 ?_ (hs3.wish fun x => srtP_mem.symm), fun x hx y hy exy hne => ?_⟩
 ·refine List.map_congr_left fun p hp => ?_
  unfold ownV
  rw [show fndP (keptV s P name) p = fndP s p from hfe p hp]
 ·obtain ⟨g, hg, a, v, bb, c⟩ := hs2.ok.1 x hx
  obtain ⟨k, hk', rfl⟩ := List.mem_map.1 hg
  rw [keepG_nm] at a
  unfold keepG at bb
  split at bb
  ·rename_i p hp
   have p1 := List.mem_of_find?_eq_some hp
   have p2 := List.find?_some hp
   simp only [decide_eq_true_eq] at p2
   have q1 := hlk p p1
   have q2 := hlk y hy
   rw [p2.1, a, exy, q2] at q1
   simp only [Option.some.injEq] at q1
   have := (List.mem_filter.1 bb).2
   simp only [decide_eq_true_eq] at this
   rw [← c, this, q1]
  ·rename_i hp
   have := List.find?_eq_none.1 hp y hy
   simp only [decide_eq_true_eq] at this
   exact absurd ⟨by rw [a, exy], by rw [a]; exact hne⟩ this
/-! what the program's walks ask -/
theorem apart_nset {l : List Prs} {x : Prs} {i : Nat} (hi : i ≤ l.length) : upTo (apartAt l x) i = !decide (x.1 ∈ nset l i) := by
 rw [Bool.eq_iff_iff, upTo_iff]
 simp only [Bool.not_eq_true', decide_eq_false_iff_not, nset_mem]
 constructor
 ·intro h hm
  obtain ⟨y, hy, e⟩ := List.mem_map.1 hm
  obtain ⟨k, hk⟩ := List.getElem?_of_mem hy
  rw [List.getElem?_take] at hk
  split at hk
  ·rename_i hki
   have := h k hki
   unfold apartAt at this
   rw [hk] at this
   simp only [decide_eq_true_eq] at this
   exact this e
  ·cases hk
 ·intro h k hk
  unfold apartAt
  cases hy : l[k]? with
  | none => rfl
  | some y =>
   simp only [decide_eq_true_eq]
   intro e
   refine h (List.mem_map.2 ⟨y, ?_, e⟩)
   refine List.mem_of_getElem? (i := k) ?_
   rw [List.getElem?_take, if_pos hk]; exact hy
def rankAt' (l : List Vrs) (x : Vrs) (k : Nat) : Bool := match l[k]? with
 | some y => decide (compareP x.1 y.1 ≠ 0)
 | none => true
theorem compP_sym (x y : Bs) : compareP x y = -compareP y x := by
 unfold compareP
 by_cases h : ((readV x).isSome && (readV y).isSome) = true
 ·rw [if_pos h, if_pos (by rw [Bool.and_comm]; exact h)]; exact cV_sym x y
 ·rw [if_neg h, if_neg (by rw [Bool.and_comm]; exact h)]; rfl
theorem rank_eq (l : List Vrs) (x : Vrs) : rankAt l x = rankAt' l x := by
 funext k
 unfold rankAt rankAt'
 cases l[k]? with
 | none => rfl
 | some y =>
  have := compP_sym x.1 y.1
  simp only [decide_eq_decide]
  omega
theorem rank_step' {l : List Vrs} {x y : Vrs} {k : Nat} (h : l[k]? = some y) (ht : upTo (rankAt l x) k = true) : upTo (rankAt l x) (k + 1) = decide (compareP x.1 y.1 ≠ 0) := by
 rw [rank_eq] at ht ⊢
 rw [upTo_step ht]; unfold rankAt'; rw [h]
def nextV (N l : List Prs) : Bs := ((N.find? fun n => (slook l n.1).isNone).map (·.1)).getD []
theorem next_step {N l : List Prs} {i : Nat} {n : Prs} (h : N[i]? = some n) : (N.drop i).find? (fun n => (slook l n.1).isNone) = if slook l n.1 = none then some n else (N.drop (i + 1)).find? (fun n => (slook l n.1).isNone) := by
 rw [drop_cons h, List.find?_cons]
 by_cases e : slook l n.1 = none
 ·rw [if_pos e]; simp [e]
 ·rw [if_neg e]
  have : (slook l n.1).isNone = false := by cases hq : slook l n.1 <;> simp_all
  simp [this]
theorem next_free {N l : List Prs} (h : NumOk l) : N.find? (fun n => (slook l n.1).isNone) = N.find? (freeN l) := by
 congr 1
 funext n
 unfold freeN
 rw [slook_pkd h]
 split <;> simp_all
def cntG (s : Src) (n : Bs) : Nat := s.countP fun g => Op.bytesLess g.1 n
theorem cnt_split : ∀ {s : Src} {n : Bs}, (s.Pairwise fun g k => Op.bytesLess g.1 k.1 = true) → (∀ i g, s[i]? = some g → (i < cntG s n ↔ Op.bytesLess g.1 n = true))
 | [], n, _, i, g, h => by simp at h
 | x :: s, n, hp, i, g, h => by
  obtain ⟨h1, h2⟩ := List.pairwise_cons.1 hp
  have ih := cnt_split (n := n) h2
  unfold cntG at ih ⊢
  rw [List.countP_cons]
  cases hx : Op.bytesLess x.1 n with
  | true =>
   simp only [if_true]
   cases i with
   | zero =>
    simp only [List.getElem?_cons_zero, Option.some.injEq] at h
    subst h
    simp [hx]
   | succ i =>
    simp only [List.getElem?_cons_succ] at h
    have := ih i g h
    rw [← this]; omega
  | false =>
   have hz : s.countP (fun g => Op.bytesLess g.1 n) = 0 := by
    rw [List.countP_eq_zero]
    intro y hy hl
    have := bl_trans (h1 y hy) hl
    rw [hx] at this; cases this
   simp only [Bool.false_eq_true, if_false, hz, Nat.add_zero]
   cases i with
   | zero =>
    simp only [List.getElem?_cons_zero, Option.some.injEq] at h
    subst h
    simp [hx]
   | succ i =>
    simp only [List.getElem?_cons_succ] at h
    have hg := List.mem_of_getElem? h
    have := bl_trans (h1 g hg) (c := n)
    constructor
    ·intro q; omega
    ·intro q; rw [hx] at this; exact absurd (this q) (by simp)
theorem cnt_le (s : Src) (n : Bs) : cntG s n ≤ s.length := List.countP_le_length
theorem cnt_find {s : Src} {n : Bs} (hs : s.Pairwise fun g k => Op.bytesLess g.1 k.1 = true) : gemV s n = (match s[cntG s n]? with | some g => if g.1 = n then some g else none | none => none) := by
 have hsp := cnt_split (n := n) hs
 unfold gemV
 cases hf : s.find? (fun g => decide (g.1 = n)) with
 | none =>
  cases hc : s[cntG s n]? with
  | none => rfl
  | some g =>
   have := List.find?_eq_none.1 hf g (List.mem_of_getElem? hc)
   simp only [decide_eq_true_eq] at this
   simp only [if_neg this]
 | some g =>
  have h1 := List.mem_of_find?_eq_some hf
  have h2 := List.find?_some hf
  simp only [decide_eq_true_eq] at h2
  obtain ⟨i, hi⟩ := List.getElem?_of_mem h1
  have hle : ¬ i < cntG s n := fun q => by
   have := (hsp i g hi).1 q
   rw [h2, bl_irr] at this; cases this
  have hil := (List.getElem?_eq_some_iff.1 hi).1
  have hcl : cntG s n < s.length := by omega
  obtain ⟨k, hc⟩ : ∃ k, s[cntG s n]? = some k := ⟨_, List.getElem?_eq_getElem hcl⟩
  rw [hc]
  have e : i = cntG s n := by
   rcases Nat.lt_or_ge (cntG s n) i with q | q
   ·have h3 := List.pairwise_iff_getElem.1 hs (cntG s n) i hcl hil q
    rw [(List.getElem?_eq_some_iff.1 hi).2, (List.getElem?_eq_some_iff.1 hc).2, h2] at h3
    have := (hsp _ _ hc).2 h3
    omega
   ·omega
  subst e
  rw [hi] at hc
  simp only [Option.some.injEq] at hc
  rw [← hc]
  simp only [if_pos h2]
end Go.Lk
set_option linter.unusedSectionVars false
namespace Go.Eng
variable {P : Program} [HasGlob P]
structure RowFrm (w w' : World) (v : Value) : Prop where
 os : w'.os = w.os
 tape : w'.tape = w.tape
 output : w'.output = w.output
 size : w.heap.size ≤ w'.heap.size
 rest : ∀ k, k < w.heap.size → v.ownBlock ≠ some k → w'.heap[k]? = w.heap[k]?
variable {P : Program} [HasGlob P] {n : Nat} {S : St} {Q : Exit → St → Prop}
end Go.Eng
namespace Go.Proofs.YteekfnhhlcmcgaaGreatDoor
open Go.Eng Go.Wh Go.Ver Go.RowKit Go.Lk
set_option maxRecDepth 20000
theorem bitsLen_spec (n : Nat) (hn : n ≤ 1000000) : PCall Tryz.prog 126 [.v (.int .u64 n)] fun r => ∃ k : Int, r = dI k := by
 refine pcall_below ⟨_, Tryz.func126, rfl, rfl⟩ fun C w us hc hg hr => ?_
 obtain rfl := repL_v (us := [.int .u64 n]) hr
 refine (Tryz.bits_Len (n : Int) w (by omega) (by omega)).mono ?_
 rintro e w' ⟨rfl, rfl⟩
 exact ⟨_, _, rfl, ⟨_, rfl⟩, .v _, Below.refl _ _⟩
end Go.Proofs.YteekfnhhlcmcgaaGreatDoor
namespace Go.Proofs.YteekfnhhlcmcgaaGreatDoor
open Go.Eng Go.Wh Go.Ver Go.Lk
set_option maxRecDepth 20000
attribute [local irreducible] AG CallA CallT AWp PCall ACall AgC
def mT (ns : List Bs) : List (Value × D) := ns.map fun n => (.string ⟨n.toArray⟩, dB true)
theorem beq_bs2 (a b : Bs) : ((⟨a.toArray⟩ : ByteArray).data.toList == (⟨b.toArray⟩ : ByteArray).data.toList) = decide (a = b) := by
 by_cases h : a = b
 ·subst h; simp
 ·simp [h]
theorem mfind_mT (r : Bs) : ∀ ns : List Bs, mfind 1 (.string ⟨r.toArray⟩) (mT ns) = some (if r ∈ ns then some (dB true) else none)
 | [] => rfl
 | k :: m => by
  have ih := mfind_mT r m
  unfold mT at ih ⊢
  simp only [List.map_cons, mfind, keyEq, beq_bs2]
  by_cases h : r = k
  ·simp [h]
  ·have hb : (r == k) = false := by simp [h]
   simp [h, ih, hb]
theorem mput_mT (d : Bs) : ∀ ns : List Bs, mput 1 (.string ⟨d.toArray⟩) (dB true) (mT ns) = mT (if d ∈ ns then ns else ns ++ [d])
 | [] => rfl
 | k :: m => by
  have ih := mput_mT d m
  unfold mT at ih ⊢
  simp only [List.map_cons, mput, keyEq, beq_bs2]
  by_cases h : d = k
  ·simp [h]
  ·have hb : (d == k) = false := by simp [h]
   by_cases hm : d ∈ m
   ·rw [if_pos hm] at ih
    simp [h, ih, hb, hm]
   ·rw [if_neg hm] at ih
    simp [h, ih, hb, hm]
theorem mfind_mT1 {r : Bs} {ns : List Bs} (h : r ∈ ns) : mfind 1 (.string ⟨r.toArray⟩) (mT ns) = some (some (dB true)) := by rw [mfind_mT, if_pos h]
theorem mfind_mT0 {r : Bs} {ns : List Bs} (h : r ∉ ns) : mfind 1 (.string ⟨r.toArray⟩) (mT ns) = some none := by rw [mfind_mT, if_neg h]
set_option maxHeartbeats 8000000 in
theorem sneeds_spec (l : List Prs) (most : Nat) (hl : SzN l) (hm : most ≤ 1000000) : PCall Tryz.prog 127 [dPs l, dI most] fun r => r = dB (nuV most l) := by 
 refine pcall_of Tryz.func127 rfl rfl Tryz.ntmps127 (rs := [.tmp 4]) (tys := [4]) rfl rfl (by simp) ?_
 obtain ⟨hl0, hl1⟩ := hl
 have hbad := fun n (h : upTo (nuAt l) n = false) (hn : n ≤ l.length) => upTo_bad h l.length hn
 have hst := fun i x => @nu_step l x i
 have hz : upTo (nuAt l) 0 = true := rfl
 have hap := fun i x (h : i ≤ l.length) => @apart_nset l x i h
 unfold nuV
 generalize upTo (nuAt l) = nt at *
 (refine awp_sr fun Y Yh=>?_;simp[go_sem];((repeat' (first|(refine ag_x ?_;simp[go_sem])|intro _|apply And.intro|(apply Yh;clear Yh Y)));all_goals first|apply Hold.mk|omega|assumption|skip))
 (refine awp_sr fun Y Yh=>?_;simp[go_sem];((repeat' (first|(refine ag_x ?_;simp[go_sem])|intro _|apply And.intro|(apply Yh;clear Yh Y)));all_goals first|apply Hold.mk|omega|assumption|skip))
 rename_i gm
 refine awp_seq_k fun K1 hK1 => ?_
 (refine awp_sr fun Y Yh=>?_;simp[go_sem];((repeat' (first|(refine ag_x ?_;simp[go_sem])|intro _|apply And.intro|(apply Yh;clear Yh Y)));all_goals first|apply Hold.mk|omega|assumption|skip))
 refine awp_block ?_
 refine awp_loop (σ := Nat) (fun i => ⟨[(0, dPs l), (1, dI most), (5, .own 8 gm), (9, dPs l), (10, dI l.length), (11, dI i)], [(8, (gm, .map (mT (nset l i))))]⟩) (fun i => i ≤ l.length ∧ nt i = true) (fun i => l.length - i) 0 ?_ ?_ ?_
 ·(refine cov_of ?_ ?_ <;> simp[go_sem, mT, nset])
 ·exact ⟨by omega, hz⟩
 rintro i ⟨hi, hn⟩
 (refine awp_sr fun Y Yh=>?_;simp[go_sem];((repeat' (first|(refine ag_x ?_;simp[go_sem])|intro _|apply And.intro|(apply Yh;clear Yh Y)));all_goals first|apply Hold.mk|omega|assumption|skip))
 refine awp_seq_k fun K2 hK2 => ?_
 (refine awp_if fun T F hT hF=>?_;simp[go_sem];refine BR.intro (fun h3=>hT ?_) (fun h3=>hF ?_);all_goals clear hT hF T F;try simp at h3) 
 ·refine awp_skip ?_
  refine hK2 _ ?_; clear hK2
  obtain ⟨x, hx⟩ : ∃ x, l[i]? = some x := ⟨_, List.getElem?_eq_getElem (by omega)⟩
  obtain ⟨hx1, hx2⟩ := hl1 x (List.mem_of_getElem? hx)
  have N1 := isName_spec x.1 (by omega)
  have C1 := Check_spec x.2 hx2
  rw [codeP_b] at C1
  have hst1 := hst i x hx hn
  have hbad1 := fun h => hbad (i + 1) h (by omega)
  rw [hap i x (by omega)] at hst1
  have hsn := @nset_snoc l i x hx
  generalize nset l i = ns at *
  generalize nameV x.1 = nb at *
  generalize (condsV x.2).isSome = cb at *
  refine awp_seq_k fun K4 hK4 => ?_
  refine awp_block ?_
  (refine awp_sr fun Y Yh=>?_;simp[go_sem, hx];((repeat' (first|(refine ag_x ?_;simp[go_sem, hx])|intro _|apply And.intro|(apply Yh;clear Yh Y)));all_goals first|apply Hold.mk|omega|assumption|skip))
  refine awp_seq_k fun K5 hK5 => ?_
  by_cases hm : x.1 ∈ ns
  ·have hF := hbad1 (by rw [hst1]; simp [hm])
   have hf := mfind_mT1 hm
   cases nb with
   | false =>
    (refine awp_sr fun Y Yh=>?_;simp[go_sem];((repeat' (first|(refine ag_x ?_;simp[go_sem])|intro _|apply And.intro|(apply Yh;clear Yh Y)));all_goals first|apply Hold.mk|omega|assumption|skip))
    ((try refine CallT.toA ?_);refine callT_m (.inl ⟨rfl,rfl⟩) (by simp[go_sem]) ?_;intro args ha;simp[go_sem] at ha;subst ha;refine ⟨_, N1, ?_⟩;rintro _ rfl;simp[go_sem, hf];((repeat' (first|(refine ag_false (by simp[go_sem, undef, hf]) (by simp[go_sem]) ?_;simp[go_sem, hf])|intro _|apply And.intro|(apply Yh;clear Yh Y)));all_goals first|apply Hold.mk|omega|assumption|skip))
    (refine awp_if fun T F hT hF=>?_;simp[go_sem];refine hT ?_;clear hT hF T F)
    (refine awp_sr fun Y Yh=>?_;simp[go_sem];((repeat' (first|(refine ag_x ?_;simp[go_sem])|intro _|apply And.intro|(apply Yh;clear Yh Y)));all_goals first|apply Hold.mk|omega|assumption|skip))
    (refine awp_ret ?_;simp[go_sem, hF])
   | true =>
    (refine awp_sr fun Y Yh=>?_;simp[go_sem];((repeat' (first|(refine ag_x ?_;simp[go_sem])|intro _|apply And.intro|(apply Yh;clear Yh Y)));all_goals first|apply Hold.mk|omega|assumption|skip))
    ((try refine CallT.toA ?_);refine callT_m (.inl ⟨rfl,rfl⟩) (by simp[go_sem]) ?_;intro args ha;simp[go_sem] at ha;subst ha;refine ⟨_, N1, ?_⟩;rintro _ rfl;simp[go_sem, hf];((repeat' (first|(refine ag_false ?_ ?_ ?_;(focus (simp[go_sem, undef, hf];done));(focus (simp[go_sem];done));simp[go_sem, hf])|(refine ag_true ?_ ?_;(focus (simp[go_sem, undef, hf];done));simp[go_sem, hf])|(refine ag_x ?_;simp[go_sem, undef, hf])|intro _|apply And.intro|(apply Yh;clear Yh Y)));all_goals first|apply Hold.mk|omega|assumption|skip))
    (refine awp_if fun T F hT hF=>?_;simp[go_sem];refine hT ?_;clear hT hF T F)
    (refine awp_sr fun Y Yh=>?_;simp[go_sem];((repeat' (first|(refine ag_x ?_;simp[go_sem])|intro _|apply And.intro|(apply Yh;clear Yh Y)));all_goals first|apply Hold.mk|omega|assumption|skip))
    (refine awp_ret ?_;simp[go_sem, hF])
  ·have hf := mfind_mT0 hm
   have hput := mput_mT x.1 ns
   rw [if_neg hm] at hput hsn
   cases nb with
   | false =>
    have hF := hbad1 (by rw [hst1]; simp)
    (refine awp_sr fun Y Yh=>?_;simp[go_sem];((repeat' (first|(refine ag_x ?_;simp[go_sem])|intro _|apply And.intro|(apply Yh;clear Yh Y)));all_goals first|apply Hold.mk|omega|assumption|skip))
    ((try refine CallT.toA ?_);refine callT_m (.inl ⟨rfl,rfl⟩) (by simp[go_sem]) ?_;intro args ha;simp[go_sem] at ha;subst ha;refine ⟨_, N1, ?_⟩;rintro _ rfl;simp[go_sem, hf];((repeat' (first|(refine ag_false (by simp[go_sem, undef, hf]) (by simp[go_sem]) ?_;simp[go_sem, hf])|intro _|apply And.intro|(apply Yh;clear Yh Y)));all_goals first|apply Hold.mk|omega|assumption|skip))
    (refine awp_if fun T F hT hF=>?_;simp[go_sem];refine hT ?_;clear hT hF T F)
    (refine awp_sr fun Y Yh=>?_;simp[go_sem];((repeat' (first|(refine ag_x ?_;simp[go_sem])|intro _|apply And.intro|(apply Yh;clear Yh Y)));all_goals first|apply Hold.mk|omega|assumption|skip))
    (refine awp_ret ?_;simp[go_sem, hF])
   | true =>
    (refine awp_sr fun Y Yh=>?_;simp[go_sem];((repeat' (first|(refine ag_x ?_;simp[go_sem])|intro _|apply And.intro|(apply Yh;clear Yh Y)));all_goals first|apply Hold.mk|omega|assumption|skip))
    ((try refine CallT.toA ?_);refine callT_m (.inl ⟨rfl,rfl⟩) (by simp[go_sem]) ?_;intro args ha;simp[go_sem] at ha;subst ha;refine ⟨_, N1, ?_⟩;rintro _ rfl;simp[go_sem, hf];((repeat' (first|(refine ag_x ?_;simp[go_sem, hf])|intro _|apply And.intro|(apply Yh;clear Yh Y)));all_goals first|apply Hold.mk|omega|assumption|skip))
    (refine agc_f (dI (if cb = true then 0 else 4)) (.inl ⟨rfl,rfl⟩) ?_ rfl ?_;(intro hc args ha;simp[go_sem] at ha;subst ha;exact C1);simp[go_sem];((repeat' (first|(refine ag_x ?_;simp[go_sem])|intro _|apply And.intro|(apply Yh;clear Yh Y)));all_goals first|apply Hold.mk|omega|assumption|skip))
    cases cb with
    | false =>
     have hF := hbad1 (by rw [hst1]; simp)
     (refine awp_if fun T F hT hF=>?_;simp[go_sem];refine hT ?_;clear hT hF T F)
     (refine awp_sr fun Y Yh=>?_;simp[go_sem];((repeat' (first|(refine ag_x ?_;simp[go_sem])|intro _|apply And.intro|(apply Yh;clear Yh Y)));all_goals first|apply Hold.mk|omega|assumption|skip))
     (refine awp_ret ?_;simp[go_sem, hF])
    | true =>
     (refine awp_if fun T F hT hF=>?_;simp[go_sem];refine hF ?_;clear hT hF T F)
     refine awp_skip ?_
     refine hK5 _ ?_; clear hK5
     (refine awp_r fun Y Yh=>?_;simp[go_sem, hput, hf];((repeat' (first|(refine ag_x ?_;simp[go_sem, hput, hf])|intro _|apply And.intro|(apply Yh;clear Yh Y)));all_goals first|apply Hold.mk|omega|assumption|skip))
     refine hK4 _ ?_; clear hK4
     (refine awp_r fun Y Yh=>?_;simp[go_sem];((repeat' (first|(refine ag_x ?_;simp[go_sem])|intro _|apply And.intro|(apply Yh;clear Yh Y)));all_goals first|apply Hold.mk|omega|assumption|skip))
     refine ⟨i + 1, ?_, ⟨by omega, by rw [hst1]; simp [hm]⟩, by omega⟩
     rw [hsn]
     (refine cov_of ?_ ?_ <;> simp[go_sem])
 ·refine awp_exit ?_
  simp only [go_sem]
  refine hK1 _ ?_; clear hK1
  have : i = l.length := by omega
  subst this
  (refine awp_sr fun Y Yh=>?_;simp[go_sem];((repeat' (first|(refine ag_x ?_;simp[go_sem])|intro _|apply And.intro|(apply Yh;clear Yh Y)));all_goals first|apply Hold.mk|omega|assumption|skip))
  (refine awp_ret ?_;simp[go_sem, hn])
theorem smeets_spec (v r : Bs) (hv : v.length ≤ 1000000) (hr : r.length ≤ 1000000) : PCall Tryz.prog 132 [dS v, dS r] fun x => x = dB (meetsP v r) := by 
 refine pcall_of Tryz.func132 rfl rfl Tryz.ntmps132 (rs := [.tmp 4]) (tys := [4]) rfl rfl (by simp) ?_
 have M := Meets_spec v r hv hr
 generalize meetsP v r = b at *
 (refine awp_sr fun Y Yh=>?_;simp[go_sem];((repeat' (first|(refine ag_x ?_;simp[go_sem])|intro _|apply And.intro|(apply Yh;clear Yh Y)));all_goals first|apply Hold.mk|omega|assumption|skip))
 (refine awp_sr fun Y Yh=>?_;simp[go_sem];((repeat' (first|(refine ag_x ?_;simp[go_sem])|intro _|apply And.intro|(apply Yh;clear Yh Y)));all_goals first|apply Hold.mk|omega|assumption|skip))
 ((try refine CallT.toA ?_);refine callT_m (.inl ⟨rfl,rfl⟩) (by simp[go_sem]) ?_;intro args ha;simp[go_sem] at ha;subst ha;refine ⟨_, M, ?_⟩;rintro _ rfl;simp[go_sem];((repeat' (first|(refine ag_x ?_;simp[go_sem])|intro _|apply And.intro|(apply Yh;clear Yh Y)));all_goals first|apply Hold.mk|omega|assumption|skip))
 (refine awp_sr fun Y Yh=>?_;simp[go_sem];((repeat' (first|(refine ag_x ?_;simp[go_sem])|intro _|apply And.intro|(apply Yh;clear Yh Y)));all_goals first|apply Hold.mk|omega|assumption|skip))
 (refine awp_ret ?_;simp[go_sem])
@[go_sem] abbrev dGm (g : Gm) : D := .agg [dS g.1, dVrs g.2]
set_option maxHeartbeats 8000000 in
theorem gvalid_spec (g : Gm) (hg : SzG g) : PCall Tryz.prog 128 [dGm g] fun r => r = dB (nameV g.1 && vuV g.2) := by 
 refine pcall_of Tryz.func128 rfl rfl Tryz.ntmps128 (rs := [.tmp 2]) (tys := [4]) rfl rfl (by simp) ?_
 obtain ⟨nm, l⟩ := g
 obtain ⟨hn0, hl, hv⟩ := hg
 simp only at hn0 hl hv
 have hbad := fun n (h : upTo (vuAt l) n = false) (hn : n ≤ l.length) => upTo_bad h l.length hn
 have hst := fun i x => @vu_step l x i
 have hz : upTo (vuAt l) 0 = true := rfl
 have N0 := isName_spec nm (by omega)
 unfold vuV
 simp only
 generalize upTo (vuAt l) = nt at *
 generalize nameV nm = nb at *
 (refine awp_sr fun Y Yh=>?_;simp[go_sem];((repeat' (first|(refine ag_x ?_;simp[go_sem])|intro _|apply And.intro|(apply Yh;clear Yh Y)));all_goals first|apply Hold.mk|omega|assumption|skip))
 rename_i gb
 refine awp_frzbox 1 rfl rfl ?_
 simp only [go_sem]
 refine awp_seq_k fun K1 hK1 => ?_
 cases nb with
 | false =>
  (refine awp_sr fun Y Yh=>?_;simp[go_sem];((repeat' (first|(refine ag_x ?_;simp[go_sem])|intro _|apply And.intro|(apply Yh;clear Yh Y)));all_goals first|apply Hold.mk|omega|assumption|skip))
  ((try refine CallT.toA ?_);refine callT_m (.inl ⟨rfl,rfl⟩) (by simp[go_sem]) ?_;intro args ha;simp[go_sem] at ha;subst ha;refine ⟨_, N0, ?_⟩;rintro _ rfl;simp[go_sem];((repeat' (first|(refine ag_false (by simp[go_sem, undef]) (by simp[go_sem]) ?_;simp[go_sem])|intro _|apply And.intro|(apply Yh;clear Yh Y)));all_goals first|apply Hold.mk|omega|assumption|skip))
  (refine awp_if fun T F hT hF=>?_;simp[go_sem];refine hT ?_;clear hT hF T F)
  (refine awp_sr fun Y Yh=>?_;simp[go_sem];((repeat' (first|(refine ag_x ?_;simp[go_sem])|intro _|apply And.intro|(apply Yh;clear Yh Y)));all_goals first|apply Hold.mk|omega|assumption|skip))
  (refine awp_ret ?_;simp[go_sem])
 | true =>
  by_cases h12 : l.length ≤ 12
  ·(refine awp_sr fun Y Yh=>?_;simp[go_sem];((repeat' (first|(refine ag_x ?_;simp[go_sem])|intro _|apply And.intro|(apply Yh;clear Yh Y)));all_goals first|apply Hold.mk|omega|assumption|skip))
   ((try refine CallT.toA ?_);refine callT_m (.inl ⟨rfl,rfl⟩) (by simp[go_sem]) ?_;intro args ha;simp[go_sem] at ha;subst ha;refine ⟨_, N0, ?_⟩;rintro _ rfl;simp[go_sem];((repeat' (first|(refine ag_false ?_ ?_ ?_;(focus (simp[go_sem, undef];done));(focus (simp[go_sem];done));simp[go_sem])|(refine ag_true ?_ ?_;(focus (simp[go_sem, undef];done));simp[go_sem])|(refine ag_x ?_;simp[go_sem, undef])|intro _|apply And.intro|(apply Yh;clear Yh Y)));all_goals first|apply Hold.mk|omega|assumption|skip))
   (refine awp_if fun T F hT hF=>?_;simp[go_sem];refine BR.intro (fun h1=>hT ?_) (fun h1=>hF ?_);all_goals clear hT hF T F;try simp at h1)
   ·exact absurd h1 (by omega)
   refine awp_skip ?_
   refine hK1 _ ?_; clear hK1
   refine awp_seq_k fun K3 hK3 => ?_
   (refine awp_sr fun Y Yh=>?_;simp[go_sem];((repeat' (first|(refine ag_x ?_;simp[go_sem])|intro _|apply And.intro|(apply Yh;clear Yh Y)));all_goals first|apply Hold.mk|omega|assumption|skip))
   refine awp_block ?_
   refine awp_loop (σ := Nat) (fun i => ⟨[(1, .rd [dS nm, dVrs l]), (20, dVrs l), (21, dI l.length), (22, dI i)], []⟩) (fun i => i ≤ l.length ∧ nt i = true) (fun i => l.length - i) 0 ?_ ?_ ?_
   ·(refine cov_of ?_ ?_ <;> simp[go_sem])
   ·exact ⟨by omega, hz⟩
   rintro i ⟨hi, hn⟩
   (refine awp_sr fun Y Yh=>?_;simp[go_sem];((repeat' (first|(refine ag_x ?_;simp[go_sem])|intro _|apply And.intro|(apply Yh;clear Yh Y)));all_goals first|apply Hold.mk|omega|assumption|skip))
   refine awp_seq_k fun K4 hK4 => ?_
   (refine awp_if fun T F hT hF=>?_;simp[go_sem];refine BR.intro (fun h5=>hT ?_) (fun h5=>hF ?_);all_goals clear hT hF T F;try simp at h5)
   ·refine awp_skip ?_
    refine hK4 _ ?_; clear hK4
    obtain ⟨x, hx⟩ : ∃ x, l[i]? = some x := ⟨_, List.getElem?_eq_getElem (by omega)⟩
    obtain ⟨hx1, hx2⟩ := hv x (List.mem_of_getElem? hx)
    have N1 := Valid_spec x.1 (by omega)
    have C1 := sneeds_spec x.2 6 hx2 (by decide)
    have hst1 := hst i x hx hn
    have hbad1 := fun h => hbad (i + 1) h (by omega)
    have hap := fun k y => @rank_step' l x y k
    have hap0 : upTo (rankAt l x) 0 = true := rfl
    have hapb := fun n (h : upTo (rankAt l x) n = false) (hn : n ≤ i) => upTo_bad h i hn
    generalize upTo (rankAt l x) = ap at *
    generalize hnb : (readV x.1).isSome = nb at *
    generalize nuV 6 x.2 = cb at *
    refine awp_seq_k fun K6 hK6 => ?_
    refine awp_block ?_
    (refine awp_sr fun Y Yh=>?_;simp[go_sem, hx];((repeat' (first|(refine ag_x ?_;simp[go_sem, hx])|intro _|apply And.intro|(apply Yh;clear Yh Y)));all_goals first|apply Hold.mk|omega|assumption|skip))
    rename_i gv
    refine awp_seq_k fun K7 hK7 => ?_
    (refine awp_sr fun Y Yh=>?_;simp[go_sem];((repeat' (first|(refine ag_x ?_;simp[go_sem])|intro _|apply And.intro|(apply Yh;clear Yh Y)));all_goals first|apply Hold.mk|omega|assumption|skip))
    ((try refine CallT.toA ?_);refine callT_m (.inl ⟨rfl,rfl⟩) (by simp[go_sem]) ?_;intro args ha;simp[go_sem] at ha;subst ha;refine ⟨_, N1, ?_⟩;rintro _ rfl;simp[go_sem];((repeat' (first|(refine ag_x ?_;simp[go_sem])|intro _|apply And.intro|(apply Yh;clear Yh Y)));all_goals first|apply Hold.mk|omega|assumption|skip))
    (refine agc_f (dB cb) (.inl ⟨rfl,rfl⟩) ?_ rfl ?_;(intro hc args ha;simp[go_sem] at ha;subst ha;exact C1);simp[go_sem];((repeat' (first|(refine ag_x ?_;simp[go_sem])|intro _|apply And.intro|(apply Yh;clear Yh Y)));all_goals first|apply Hold.mk|omega|assumption|skip))
    cases nb with
    | false =>
     have hF := hbad1 (by rw [hst1]; simp)
     (refine awp_if fun T F hT hF=>?_;simp[go_sem];refine hT ?_;clear hT hF T F)
     (refine awp_sr fun Y Yh=>?_;simp[go_sem];((repeat' (first|(refine ag_x ?_;simp[go_sem])|intro _|apply And.intro|(apply Yh;clear Yh Y)));all_goals first|apply Hold.mk|omega|assumption|skip))
     (refine awp_ret ?_;simp[go_sem, hF])
    | true =>
     cases cb with
     | false =>
      have hF := hbad1 (by rw [hst1]; simp)
      (refine awp_if fun T F hT hF=>?_;simp[go_sem];refine hT ?_;clear hT hF T F)
      (refine awp_sr fun Y Yh=>?_;simp[go_sem];((repeat' (first|(refine ag_x ?_;simp[go_sem])|intro _|apply And.intro|(apply Yh;clear Yh Y)));all_goals first|apply Hold.mk|omega|assumption|skip))
      (refine awp_ret ?_;simp[go_sem, hF])
     | true =>
      (refine awp_if fun T F hT hF=>?_;simp[go_sem];refine hF ?_;clear hT hF T F)
      refine awp_skip ?_
      refine hK7 _ ?_; clear hK7
      simp only [Bool.true_and] at hst1
      (refine awp_sr fun Y Yh=>?_;simp[go_sem];((repeat' (first|(refine ag_x ?_;simp[go_sem])|intro _|apply And.intro|(apply Yh;clear Yh Y)));all_goals first|apply Hold.mk|omega|assumption|skip))
      refine awp_block ?_
      refine awp_loop (σ := Nat) (fun k => ⟨[(1, .rd [dS nm, dVrs l]), (20, dVrs l), (21, dI l.length), (22, dI i), (3, dI i), (4, .ptr 4 gv 0), (40, .sl 2 ((l.map cVr).take i)), (41, dI i), (42, dI k)], [(4, (gv, .box [dS x.1, dPs x.2]))]⟩) (fun k => k ≤ i ∧ ap k = true) (fun k => i - k) 0 ?_ ?_ ?_
      ·(refine cov_of ?_ ?_ <;> simp[go_sem])
       omega
      ·exact ⟨by omega, hap0⟩
      rintro k ⟨hk, ha⟩
      (refine awp_sr fun Y Yh=>?_;simp[go_sem];((repeat' (first|(refine ag_x ?_;simp[go_sem])|intro _|apply And.intro|(apply Yh;clear Yh Y)));all_goals first|apply Hold.mk|omega|assumption|skip))
      refine awp_seq_k fun K8 hK8 => ?_
      (refine awp_if fun T F hT hF=>?_;simp[go_sem];refine BR.intro (fun h9=>hT ?_) (fun h9=>hF ?_);all_goals clear hT hF T F;try simp at h9)
      ·refine awp_skip ?_
       refine hK8 _ ?_; clear hK8
       obtain ⟨y, hy⟩ : ∃ y, l[k]? = some y := ⟨_, List.getElem?_eq_getElem (by omega)⟩
       obtain ⟨hy1, _⟩ := hv y (List.mem_of_getElem? hy)
       have hap1 := hap k y hy ha
       have CM := Compare_spec x.1 y.1 hx1 hy1
       have hyt : ((l.map cVr).take i)[k]? = some (cVr y) := by rw [List.getElem?_take, if_pos (by omega), List.getElem?_map, hy]; rfl
       generalize compareP x.1 y.1 = cv at *
       generalize codeP ((readV x.1).isSome && (readV y.1).isSome) = ce at *
       refine awp_seq_k fun K10 hK10 => ?_
       refine awp_block ?_
       (refine awp_sr fun Y Yh=>?_;simp[go_sem, hyt];((repeat' (first|(refine ag_x ?_;simp[go_sem, hyt])|intro _|apply And.intro|(apply Yh;clear Yh Y)));all_goals first|apply Hold.mk|omega|assumption|skip))
       (refine awp_sr fun Y Yh=>?_;simp[go_sem];((repeat' (first|(refine ag_x ?_;simp[go_sem])|intro _|apply And.intro|(apply Yh;clear Yh Y)));all_goals first|apply Hold.mk|omega|assumption|skip))
       ((try refine CallT.toA ?_);refine callT_m (.inl ⟨rfl,rfl⟩) (by simp[go_sem]) ?_;intro args ha;simp[go_sem] at ha;subst ha;refine ⟨_, CM, ?_⟩;rintro _ rfl;simp[go_sem];((repeat' (first|(refine ag_x ?_;simp[go_sem])|intro _|apply And.intro|(apply Yh;clear Yh Y)));all_goals first|apply Hold.mk|omega|assumption|skip))
       (refine awp_sr fun Y Yh=>?_;simp[go_sem];((repeat' (first|(refine ag_x ?_;simp[go_sem])|intro _|apply And.intro|(apply Yh;clear Yh Y)));all_goals first|apply Hold.mk|omega|assumption|skip))
       (refine awp_if fun T F hT hF=>?_;simp[go_sem];refine BR.intro (fun h11=>hT ?_) (fun h11=>hF ?_);all_goals clear hT hF T F;try simp at h11)
       ·have hF := hbad1 (by rw [hst1]; exact hapb (k + 1) (by rw [hap1]; simp [h11]) (by omega))
        (refine awp_sr fun Y Yh=>?_;simp[go_sem];((repeat' (first|(refine ag_x ?_;simp[go_sem])|intro _|apply And.intro|(apply Yh;clear Yh Y)));all_goals first|apply Hold.mk|omega|assumption|skip))
        (refine awp_ret ?_;simp[go_sem, hF])
       ·refine awp_skip ?_
        refine hK10 _ ?_; clear hK10
        (refine awp_r fun Y Yh=>?_;simp[go_sem];((repeat' (first|(refine ag_x ?_;simp[go_sem])|intro _|apply And.intro|(apply Yh;clear Yh Y)));all_goals first|apply Hold.mk|omega|assumption|skip))
        refine ⟨k + 1, ?_, ⟨by omega, by rw [hap1]; simp [h11]⟩, by omega⟩
        (refine cov_of ?_ ?_ <;> simp[go_sem])
      ·refine awp_exit ?_
       simp only [go_sem]
       have hki : k = i := by omega
       subst hki
       refine hK6 _ ?_; clear hK6
       (refine awp_r fun Y Yh=>?_;simp[go_sem];((repeat' (first|(refine ag_x ?_;simp[go_sem])|intro _|apply And.intro|(apply Yh;clear Yh Y)));all_goals first|apply Hold.mk|omega|assumption|skip))
       refine ⟨k + 1, ?_, ⟨by omega, by rw [hst1]; exact ha⟩, by omega⟩
       (refine cov_of ?_ ?_ <;> simp[go_sem])
   ·refine awp_exit ?_
    simp only [go_sem]
    refine hK3 _ ?_; clear hK3
    have : i = l.length := by omega
    subst this
    (refine awp_sr fun Y Yh=>?_;simp[go_sem];((repeat' (first|(refine ag_x ?_;simp[go_sem])|intro _|apply And.intro|(apply Yh;clear Yh Y)));all_goals first|apply Hold.mk|omega|assumption|skip))
    (refine awp_ret ?_;simp[go_sem, h12, hn])
  ·(refine awp_sr fun Y Yh=>?_;simp[go_sem];((repeat' (first|(refine ag_x ?_;simp[go_sem])|intro _|apply And.intro|(apply Yh;clear Yh Y)));all_goals first|apply Hold.mk|omega|assumption|skip))
   ((try refine CallT.toA ?_);refine callT_m (.inl ⟨rfl,rfl⟩) (by simp[go_sem]) ?_;intro args ha;simp[go_sem] at ha;subst ha;refine ⟨_, N0, ?_⟩;rintro _ rfl;simp[go_sem];((repeat' (first|(refine ag_false ?_ ?_ ?_;(focus (simp[go_sem, undef];done));(focus (simp[go_sem];done));simp[go_sem])|(refine ag_true ?_ ?_;(focus (simp[go_sem, undef];done));simp[go_sem])|(refine ag_x ?_;simp[go_sem, undef])|intro _|apply And.intro|(apply Yh;clear Yh Y)));all_goals first|apply Hold.mk|omega|assumption|skip))
   (refine awp_if fun T F hT hF=>?_;simp[go_sem];refine BR.intro (fun h1=>hT ?_) (fun h1=>hF ?_);all_goals clear hT hF T F;try simp at h1)
   ·(refine awp_sr fun Y Yh=>?_;simp[go_sem];((repeat' (first|(refine ag_x ?_;simp[go_sem])|intro _|apply And.intro|(apply Yh;clear Yh Y)));all_goals first|apply Hold.mk|omega|assumption|skip))
    (refine awp_ret ?_;simp[go_sem, h12])
   ·exact absurd h1 (by omega)
set_option maxHeartbeats 8000000 in
theorem sCheck_spec (s : Src) (w : List Prs) (hs : SzS s) (hw : SzN w) : PCall Tryz.prog 76 [dSrc s, dPs w] fun r => r = dI (if chkV s w then 0 else 1) := by 
 refine pcall_of Tryz.func76 rfl rfl Tryz.ntmps76 (rs := [.tmp 4]) (tys := [35]) rfl rfl (by simp) ?_
 obtain ⟨hs0, hs1⟩ := hs
 have hbad := fun n (h : upTo (suAt s) n = false) (hn : n ≤ s.length) => upTo_bad h s.length hn
 have hst := fun i x => @su_step s x i
 have hz : upTo (suAt s) 0 = true := rfl
 have N0 := sneeds_spec w 8 hw (by decide)
 unfold chkV suV
 generalize upTo (suAt s) = nt at *
 generalize nuV 8 w = nb at *
 (refine awp_sr fun Y Yh=>?_;simp[go_sem];((repeat' (first|(refine ag_x ?_;simp[go_sem])|intro _|apply And.intro|(apply Yh;clear Yh Y)));all_goals first|apply Hold.mk|omega|assumption|skip))
 refine awp_frzbox 2 rfl rfl ?_
 simp only [go_sem]
 refine awp_seq_k fun K1 hK1 => ?_
 (refine awp_sr fun Y Yh=>?_;simp[go_sem];((repeat' (first|(refine ag_x ?_;simp[go_sem])|intro _|apply And.intro|(apply Yh;clear Yh Y)));all_goals first|apply Hold.mk|omega|assumption|skip))
 (refine agc_f (dB nb) (.inl ⟨rfl,rfl⟩) ?_ rfl ?_;(intro hc args ha;simp[go_sem] at ha;subst ha;exact N0);simp[go_sem];((repeat' (first|(refine ag_x ?_;simp[go_sem])|intro _|apply And.intro|(apply Yh;clear Yh Y)));all_goals first|apply Hold.mk|omega|assumption|skip))
 (refine awp_if fun T F hT hF=>?_;simp[go_sem];refine BR.intro (fun h2=>hT ?_) (fun h2=>hF ?_);all_goals clear hT hF T F;try simp at h2)
 ·have hb : (decide (s.length ≤ 15) && nt s.length && nb) = false := by
   rcases h2 with h | h
   ·have : ¬ s.length ≤ 15 := by omega
    simp [this]
   ·simp [h]
  (refine awp_sr fun Y Yh=>?_;simp[go_sem];((repeat' (first|(refine ag_x ?_;simp[go_sem])|intro _|apply And.intro|(apply Yh;clear Yh Y)));all_goals first|apply Hold.mk|omega|assumption|skip))
  (refine awp_ret ?_;simp[go_sem, hb])
 ·obtain ⟨h15, h16⟩ : s.length ≤ 15 ∧ nb = true := by
   constructor
   ·have := h2.1; omega
   ·exact h2.2
  subst h16
  refine awp_skip ?_
  refine hK1 _ ?_; clear hK1
  refine awp_seq_k fun K3 hK3 => ?_
  (refine awp_sr fun Y Yh=>?_;simp[go_sem];((repeat' (first|(refine ag_x ?_;simp[go_sem])|intro _|apply And.intro|(apply Yh;clear Yh Y)));all_goals first|apply Hold.mk|omega|assumption|skip))
  refine awp_block ?_
  refine awp_loop (σ := Nat) (fun i => ⟨[(2, .rd [dGms s]), (17, dGms s), (18, dI s.length), (19, dI i)], []⟩) (fun i => i ≤ s.length ∧ nt i = true) (fun i => s.length - i) 0 ?_ ?_ ?_
  ·(refine cov_of ?_ ?_ <;> simp[go_sem])
  ·exact ⟨by omega, hz⟩
  rintro i ⟨hi, hn⟩
  (refine awp_sr fun Y Yh=>?_;simp[go_sem];((repeat' (first|(refine ag_x ?_;simp[go_sem])|intro _|apply And.intro|(apply Yh;clear Yh Y)));all_goals first|apply Hold.mk|omega|assumption|skip))
  refine awp_seq_k fun K4 hK4 => ?_
  (refine awp_if fun T F hT hF=>?_;simp[go_sem];refine BR.intro (fun h5=>hT ?_) (fun h5=>hF ?_);all_goals clear hT hF T F;try simp at h5)
  ·refine awp_skip ?_
   refine hK4 _ ?_; clear hK4
   obtain ⟨x, hx⟩ : ∃ x, s[i]? = some x := ⟨_, List.getElem?_eq_getElem (by omega)⟩
   have V := gvalid_spec x (hs1 x (List.mem_of_getElem? hx))
   have hst1 := hst i x hx hn
   have hbad1 := fun h => hbad (i + 1) h (by omega)
   have e : ∀ a b c : Bool, (a && b && c) = ((a && c) && b) := by decide
   rw [e] at hst1
   clear e
   generalize (nameV x.1 && vuV x.2) = vb at *
   refine awp_seq_k fun K6 hK6 => ?_
   refine awp_block ?_
   (refine awp_sr fun Y Yh=>?_;simp[go_sem, hx];((repeat' (first|(refine ag_x ?_;simp[go_sem, hx])|intro _|apply And.intro|(apply Yh;clear Yh Y)));all_goals first|apply Hold.mk|omega|assumption|skip))
   cases vb with
   | false =>
    have hF := hbad1 (by rw [hst1]; simp)
    ((refine awp_dr (.qs [0] (.one 1 (.qs [2, 3] (.sk 4 (.sk 5 (.sk 6 (.sk 7 (.sk 9 (.sk 10 (.sk 14 (.sk 8 (.sk 11 (.sk 12 (.sk 13 (.sk 15 (.sk 16 (.sk 17 (.qs [18] (.nil))))))))))))))))))) (by kernel_rfl) ?_ ?_ ?_ ?_);kernel_rfl;exact (by decide +kernel);kernel_rfl;intro Y Yh;((repeat' (first|(refine ag_x ?_;simp[go_sem])|refine adr_nil ?_|((first|refine adr_qs fun Y Yh=>?_|refine adr_y fun Y Yh=>?_);simp[go_sem])|intro _|apply And.intro|(apply Yh;clear Yh Y)));all_goals first|apply Hold.mk|omega|assumption|skip))
    ((try refine CallT.toA ?_);refine callT_m (.inl ⟨rfl,rfl⟩) (by simp[go_sem]) ?_;intro args ha;simp[go_sem] at ha;subst ha;refine ⟨_, V, ?_⟩;rintro _ rfl;simp[go_sem, undef];((repeat' (first|(refine ag_x ?_;simp[go_sem, undef])|refine adr_nil ?_|((first|refine adr_qs fun Y Yh=>?_|refine adr_y fun Y Yh=>?_);simp[go_sem, undef])|intro _|apply And.intro|(apply Yh;clear Yh Y)));all_goals first|apply Hold.mk|omega|assumption|skip))
    (refine awp_if fun T F hT hF=>?_;simp[go_sem];refine hT ?_;clear hT hF T F)
    (refine awp_sr fun Y Yh=>?_;simp[go_sem];((repeat' (first|(refine ag_x ?_;simp[go_sem])|intro _|apply And.intro|(apply Yh;clear Yh Y)));all_goals first|apply Hold.mk|omega|assumption|skip))
    (refine awp_ret ?_;simp[go_sem, hF])
   | true =>
    by_cases h0 : i = 0
    ·subst h0
     have hT : nt 1 = true := by rw [hst1]; simp
     ((refine awp_dr (.qs [0] (.one 1 (.qs [2, 3, 4, 5, 6] (.sk 7 (.sk 9 (.sk 10 (.sk 14 (.sk 8 (.sk 11 (.sk 12 (.sk 13 (.sk 15 (.sk 16 (.qs [17, 18] (.nil))))))))))))))) (by kernel_rfl) ?_ ?_ ?_ ?_);kernel_rfl;exact (by decide +kernel);kernel_rfl;intro Y Yh;((repeat' (first|(refine ag_x ?_;simp[go_sem])|refine adr_nil ?_|((first|refine adr_qs fun Y Yh=>?_|refine adr_y fun Y Yh=>?_);simp[go_sem])|intro _|apply And.intro|(apply Yh;clear Yh Y)));all_goals first|apply Hold.mk|omega|assumption|skip))
     ((try refine CallT.toA ?_);refine callT_m (.inl ⟨rfl,rfl⟩) (by simp[go_sem]) ?_;intro args ha;simp[go_sem] at ha;subst ha;refine ⟨_, V, ?_⟩;rintro _ rfl;simp[go_sem, undef];((repeat' (first|(refine ag_x ?_;simp[go_sem, undef])|refine adr_nil ?_|((first|refine adr_qs fun Y Yh=>?_|refine adr_y fun Y Yh=>?_);simp[go_sem, undef])|intro _|apply And.intro|(apply Yh;clear Yh Y)));all_goals first|apply Hold.mk|omega|assumption|skip))
     (refine awp_if fun T F hT hF=>?_;simp[go_sem];refine hF ?_;clear hT hF T F)
     refine awp_skip ?_
     refine hK6 _ ?_; clear hK6
     (refine awp_r fun Y Yh=>?_;simp[go_sem];((repeat' (first|(refine ag_x ?_;simp[go_sem])|intro _|apply And.intro|(apply Yh;clear Yh Y)));all_goals first|apply Hold.mk|omega|assumption|skip))
     refine ⟨1, ?_, ⟨by omega, hT⟩, by omega⟩
     (refine cov_of ?_ ?_ <;> simp[go_sem])
    ·obtain ⟨j, rfl⟩ : ∃ j, i = j + 1 := ⟨i - 1, by omega⟩
     obtain ⟨y, hy⟩ : ∃ y, s[j]? = some y := ⟨_, List.getElem?_eq_getElem (by omega)⟩
     have hi1 : ((j : Int) + 1 - 1).toNat = j := by omega
     have hi2 : (j : Int) + 1 - 1 = j := by omega
     have hi3 : ((j : Int) + 1).toNat = j + 1 := by omega
     have hpos : (0 : Int) < (j : Int) + 1 := by omega
     simp only [Nat.add_sub_cancel, hy] at hst1
     generalize hlb : Op.bytesLess y.1 x.1 = lb at *
     ((refine awp_dr (.qs [0] (.one 1 (.qs [2, 3, 4, 5, 6, 7, 9, 10, 14, 8, 11, 12, 13, 15, 16, 17, 18] (.nil)))) (by kernel_rfl) ?_ ?_ ?_ ?_);kernel_rfl;exact (by decide +kernel);kernel_rfl;intro Y Yh;((repeat' (first|(refine ag_x ?_;simp[go_sem, hy, hi1, hi2, hi3, hpos])|refine adr_nil ?_|((first|refine adr_qs fun Y Yh=>?_|refine adr_y fun Y Yh=>?_);simp[go_sem, hy, hi1, hi2, hi3, hpos])|intro _|apply And.intro|(apply Yh;clear Yh Y)));all_goals first|apply Hold.mk|omega|assumption|skip))
     ((try refine CallT.toA ?_);refine callT_m (.inl ⟨rfl,rfl⟩) (by simp[go_sem]) ?_;intro args ha;simp[go_sem] at ha;subst ha;refine ⟨_, V, ?_⟩;rintro _ rfl;simp[go_sem, hy, hi1, hi2, hi3, hpos, hlb];((repeat' (first|(refine ag_x ?_;simp[go_sem, hy, hi1, hi2, hi3, hpos, hlb])|refine adr_nil ?_|((first|refine adr_qs fun Y Yh=>?_|refine adr_y fun Y Yh=>?_);simp[go_sem, hy, hi1, hi2, hi3, hpos, hlb])|intro _|apply And.intro|(apply Yh;clear Yh Y)));all_goals first|apply Hold.mk|omega|assumption|skip))
     cases lb with
     | false =>
      have hF := hbad1 (by rw [hst1]; simp)
      (refine awp_if fun T F hT hF=>?_;simp[go_sem];refine hT ?_;clear hT hF T F)
      (refine awp_sr fun Y Yh=>?_;simp[go_sem];((repeat' (first|(refine ag_x ?_;simp[go_sem])|intro _|apply And.intro|(apply Yh;clear Yh Y)));all_goals first|apply Hold.mk|omega|assumption|skip))
      (refine awp_ret ?_;simp[go_sem, hF])
     | true =>
      have hT : nt (j + 1 + 1) = true := by rw [hst1]; simp
      (refine awp_if fun T F hT hF=>?_;simp[go_sem];refine hF ?_;clear hT hF T F)
      refine awp_skip ?_
      refine hK6 _ ?_; clear hK6
      (refine awp_r fun Y Yh=>?_;simp[go_sem];((repeat' (first|(refine ag_x ?_;simp[go_sem])|intro _|apply And.intro|(apply Yh;clear Yh Y)));all_goals first|apply Hold.mk|omega|assumption|skip))
      refine ⟨j + 1 + 1, ?_, ⟨by omega, hT⟩, by omega⟩
      (refine cov_of ?_ ?_ <;> simp[go_sem])
  ·refine awp_exit ?_
   simp only [go_sem]
   refine hK3 _ ?_; clear hK3
   have : i = s.length := by omega
   subst this
   (refine awp_sr fun Y Yh=>?_;simp[go_sem];((repeat' (first|(refine ag_x ?_;simp[go_sem])|intro _|apply And.intro|(apply Yh;clear Yh Y)));all_goals first|apply Hold.mk|omega|assumption|skip))
   (refine awp_ret ?_;simp[go_sem, h15, hn])
@[go_sem] abbrev dFn (f : Nat) : D := .v (.func (.func f) #[] #[])
def scmpV (a b : Bs) : Int := if Op.bytesLess a b = true then -1 else if Op.bytesLess b a = true then 1 else 0
theorem scmp_neg {a b : Bs} : scmpV a b < 0 ↔ Op.bytesLess a b = true := by
 unfold scmpV
 split
 ·rename_i h; simp [h]
 ·rename_i h; split <;> simp [h]
theorem scmp_zero {a b : Bs} : scmpV a b = 0 ↔ a = b := by
 unfold scmpV
 constructor
 ·intro h
  rcases bl_tri a b with q | q | q
  ·exact q
  ·simp [q] at h
  ·cases hab : Op.bytesLess a b <;> simp [hab, q] at h
 ·rintro rfl
  rw [bl_irr]; rfl
theorem isNaN_spec (a : Bs) : PCall Tryz.prog 214 [dS a] fun r => r = dB false := by 
 refine pcall_of Tryz.func214 rfl rfl Tryz.ntmps214 (rs := [.tmp 2]) (tys := [4]) rfl rfl (by simp) ?_
 (refine awp_sr fun Y Yh=>?_;simp[go_sem];((repeat' (first|(refine ag_x ?_;simp[go_sem])|intro _|apply And.intro|(apply Yh;clear Yh Y)));all_goals first|apply Hold.mk|omega|assumption|skip))
 (refine awp_sr fun Y Yh=>?_;simp[go_sem];((repeat' (first|(refine ag_x ?_;simp[go_sem])|intro _|apply And.intro|(apply Yh;clear Yh Y)));all_goals first|apply Hold.mk|omega|assumption|skip))
 (refine awp_ret ?_;simp[go_sem])
theorem scompare_spec (a b : Bs) : PCall Tryz.prog 180 [dS a, dS b] fun r => r = dI (scmpV a b) := by 
 refine pcall_of Tryz.func180 rfl rfl Tryz.ntmps180 (rs := [.tmp 4]) (tys := [3]) rfl rfl (by simp) ?_
 have A := isNaN_spec a
 have B := isNaN_spec b
 unfold scmpV
 (refine awp_sr fun Y Yh=>?_;simp[go_sem];((repeat' (first|(refine ag_x ?_;simp[go_sem])|intro _|apply And.intro|(apply Yh;clear Yh Y)));all_goals first|apply Hold.mk|omega|assumption|skip))
 (refine awp_sr fun Y Yh=>?_;simp[go_sem];((repeat' (first|(refine ag_x ?_;simp[go_sem])|intro _|apply And.intro|(apply Yh;clear Yh Y)));all_goals first|apply Hold.mk|omega|assumption|skip))
 ((try refine CallT.toA ?_);refine callT_m (.inl ⟨rfl,rfl⟩) (by simp[go_sem]) ?_;intro args ha;simp[go_sem] at ha;subst ha;refine ⟨_, A, ?_⟩;rintro _ rfl;simp[go_sem];((repeat' (first|(refine ag_x ?_;simp[go_sem])|intro _|apply And.intro|(apply Yh;clear Yh Y)));all_goals first|apply Hold.mk|omega|assumption|skip))
 (refine awp_sr fun Y Yh=>?_;simp[go_sem];((repeat' (first|(refine ag_x ?_;simp[go_sem])|intro _|apply And.intro|(apply Yh;clear Yh Y)));all_goals first|apply Hold.mk|omega|assumption|skip))
 ((try refine CallT.toA ?_);refine callT_m (.inl ⟨rfl,rfl⟩) (by simp[go_sem]) ?_;intro args ha;simp[go_sem] at ha;subst ha;refine ⟨_, B, ?_⟩;rintro _ rfl;simp[go_sem];((repeat' (first|(refine ag_x ?_;simp[go_sem])|intro _|apply And.intro|(apply Yh;clear Yh Y)));all_goals first|apply Hold.mk|omega|assumption|skip))
 refine awp_seq_k fun K1 hK1 => ?_
 (refine awp_sr fun Y Yh=>?_;simp[go_sem];((repeat' (first|(refine ag_x ?_;simp[go_sem])|intro _|apply And.intro|(apply Yh;clear Yh Y)));all_goals first|apply Hold.mk|omega|assumption|skip))
 (refine awp_if fun T F hT hF=>?_;simp[go_sem];refine hF ?_;clear hT hF T F)
 refine awp_skip ?_
 refine hK1 _ ?_; clear hK1
 refine awp_seq_k fun K2 hK2 => ?_
 (refine awp_sr fun Y Yh=>?_;simp[go_sem];((repeat' (first|(refine ag_x ?_;simp[go_sem])|intro _|apply And.intro|(apply Yh;clear Yh Y)));all_goals first|apply Hold.mk|omega|assumption|skip))
 (refine awp_if fun T F hT hF=>?_;simp[go_sem];refine hF ?_;clear hT hF T F)
 refine awp_skip ?_
 refine hK2 _ ?_; clear hK2
 refine awp_seq_k fun K3 hK3 => ?_
 (refine awp_sr fun Y Yh=>?_;simp[go_sem];((repeat' (first|(refine ag_x ?_;simp[go_sem])|intro _|apply And.intro|(apply Yh;clear Yh Y)));all_goals first|apply Hold.mk|omega|assumption|skip))
 (refine awp_if fun T F hT hF=>?_;simp[go_sem];refine BR.intro (fun h3=>hT ?_) (fun h3=>hF ?_);all_goals clear hT hF T F;try simp at h3)
 ·(refine awp_sr fun Y Yh=>?_;simp[go_sem];((repeat' (first|(refine ag_x ?_;simp[go_sem])|intro _|apply And.intro|(apply Yh;clear Yh Y)));all_goals first|apply Hold.mk|omega|assumption|skip))
  (refine awp_ret ?_;simp[go_sem, h3])
 ·refine awp_skip ?_
  refine hK3 _ ?_; clear hK3
  refine awp_seq_k fun K4 hK4 => ?_
  (refine awp_sr fun Y Yh=>?_;simp[go_sem];((repeat' (first|(refine ag_x ?_;simp[go_sem])|intro _|apply And.intro|(apply Yh;clear Yh Y)));all_goals first|apply Hold.mk|omega|assumption|skip))
  (refine awp_if fun T F hT hF=>?_;simp[go_sem];refine BR.intro (fun h4=>hT ?_) (fun h4=>hF ?_);all_goals clear hT hF T F;try simp at h4)
  ·(refine awp_sr fun Y Yh=>?_;simp[go_sem];((repeat' (first|(refine ag_x ?_;simp[go_sem])|intro _|apply And.intro|(apply Yh;clear Yh Y)));all_goals first|apply Hold.mk|omega|assumption|skip))
   (refine awp_ret ?_;simp[go_sem, h3, h4])
  ·refine awp_skip ?_
   refine hK4 _ ?_; clear hK4
   (refine awp_sr fun Y Yh=>?_;simp[go_sem];((repeat' (first|(refine ag_x ?_;simp[go_sem])|intro _|apply And.intro|(apply Yh;clear Yh Y)));all_goals first|apply Hold.mk|omega|assumption|skip))
   (refine awp_ret ?_;simp[go_sem, h3, h4])
theorem gem1_spec (g : Gm) (n : Bs) : PCall Tryz.prog 179 [dGm g, dS n] fun r => r = dI (scmpV g.1 n) := by 
 refine pcall_of Tryz.func179 rfl rfl Tryz.ntmps179 (rs := [.tmp 4]) (tys := [3]) rfl rfl (by simp) ?_
 have A := scompare_spec g.1 n
 (refine awp_sr fun Y Yh=>?_;simp[go_sem];((repeat' (first|(refine ag_x ?_;simp[go_sem])|intro _|apply And.intro|(apply Yh;clear Yh Y)));all_goals first|apply Hold.mk|omega|assumption|skip))
 (refine awp_sr fun Y Yh=>?_;simp[go_sem];((repeat' (first|(refine ag_x ?_;simp[go_sem])|intro _|apply And.intro|(apply Yh;clear Yh Y)));all_goals first|apply Hold.mk|omega|assumption|skip))
 ((try refine CallT.toA ?_);refine callT_m (.inl ⟨rfl,rfl⟩) (by simp[go_sem]) ?_;intro args ha;simp[go_sem] at ha;subst ha;refine ⟨_, A, ?_⟩;rintro _ rfl;simp[go_sem];((repeat' (first|(refine ag_x ?_;simp[go_sem])|intro _|apply And.intro|(apply Yh;clear Yh Y)));all_goals first|apply Hold.mk|omega|assumption|skip))
 (refine awp_ret ?_;simp[go_sem])
theorem half (i j : Nat) (h : i + j < 9223372036854775808) : shrI .u64 (IntKind.u64.wrap ((i : Int) + (j : Int))) 1 = (((i + j) / 2 : Nat) : Int) := by
 have e : IntKind.u64.wrap ((i : Int) + (j : Int)) = ((i + j : Nat) : Int) := by
  rw [IntKind.wrap_u64]
  have : ((i : Int) + (j : Int)) = ((i + j : Nat) : Int) := by omega
  rw [this, Int.emod_eq_of_lt (by omega) (by omega)]
 rw [e]
 unfold shrI
 have : (2 : Int) ^ min (1 : Int).toNat (IntKind.u64.bits) = 2 := by decide
 rw [this, Int.fdiv_eq_ediv_of_nonneg _ (by omega)]
 omega
set_option maxHeartbeats 8000000 in
theorem search_spec (s : Src) (n : Bs) (hs : s.Pairwise fun g k => Op.bytesLess g.1 k.1 = true) (hl : s.length ≤ 1000000) :
  PCall Tryz.prog 178 [dGms s, dS n, dFn 179] fun r => r = .tup [dI (cntG s n), dB (gemV s n).isSome] := by 
 refine pcall_of Tryz.func178 rfl rfl Tryz.ntmps178 (rs := [.tmp 6, .tmp 7]) (tys := [3, 4]) rfl rfl (by simp) ?_
 have hsp := @cnt_split s n hs
 have hcl := cnt_le s n
 have hfd := @cnt_find s n hs
 generalize cntG s n = c at *
 generalize gemV s n = gq at *
 (refine awp_sr fun Y Yh=>?_;simp[go_sem];((repeat' (first|(refine ag_x ?_;simp[go_sem])|intro _|apply And.intro|(apply Yh;clear Yh Y)));all_goals first|apply Hold.mk|omega|assumption|skip))
 (refine awp_sr fun Y Yh=>?_;simp[go_sem];((repeat' (first|(refine ag_x ?_;simp[go_sem])|intro _|apply And.intro|(apply Yh;clear Yh Y)));all_goals first|apply Hold.mk|omega|assumption|skip))
 (refine awp_sr fun Y Yh=>?_;simp[go_sem];((repeat' (first|(refine ag_x ?_;simp[go_sem])|intro _|apply And.intro|(apply Yh;clear Yh Y)));all_goals first|apply Hold.mk|omega|assumption|skip))
 refine awp_seq_k fun K1 hK1 => ?_
 refine awp_block ?_
 refine awp_loop (σ := Nat × Nat) (fun x => ⟨[(0, dGms s), (1, dS n), (2, dFn 179), (8, dI s.length), (9, dI x.1), (10, dI x.2)], []⟩) (fun x => x.1 ≤ c ∧ c ≤ x.2 ∧ x.2 ≤ s.length) (fun x => x.2 - x.1) (0, s.length) ?_ ?_ ?_
 ·(refine cov_of ?_ ?_ <;> simp[go_sem])
 ·exact ⟨by omega, by omega, by simp⟩
 rintro ⟨i, j⟩ ⟨h1, h2, h3⟩
 simp only at h1 h2 h3
 refine awp_seq_k fun K2 hK2 => ?_
 (refine awp_sr fun Y Yh=>?_;simp[go_sem];((repeat' (first|(refine ag_x ?_;simp[go_sem])|intro _|apply And.intro|(apply Yh;clear Yh Y)));all_goals first|apply Hold.mk|omega|assumption|skip))
 (refine awp_if fun T F hT hF=>?_;simp[go_sem];refine BR.intro (fun h4=>hT ?_) (fun h4=>hF ?_);all_goals clear hT hF T F;try simp at h4)
 ·refine awp_skip ?_
  refine hK2 _ ?_; clear hK2
  have hh := half i j (by omega)
  obtain ⟨g, hg⟩ : ∃ g, s[(i + j) / 2]? = some g := ⟨_, List.getElem?_eq_getElem (by omega)⟩
  have C1 := gem1_spec g n
  have hc1 := hsp _ g hg
  rw [← scmp_neg] at hc1
  generalize scmpV g.1 n = sv at *
  have hm1 : i ≤ (i + j) / 2 := by omega
  have hm2 : (i + j) / 2 < j := by omega
  generalize (i + j) / 2 = m at *
  refine awp_block ?_
  (refine awp_sr fun Y Yh=>?_;simp[go_sem, hh];((repeat' (first|(refine ag_x ?_;simp[go_sem, hh])|intro _|apply And.intro|(apply Yh;clear Yh Y)));all_goals first|apply Hold.mk|omega|assumption|skip))
  (refine awp_sr fun Y Yh=>?_;simp[go_sem, hg];((repeat' (first|(refine ag_x ?_;simp[go_sem, hg])|intro _|apply And.intro|(apply Yh;clear Yh Y)));all_goals first|apply Hold.mk|omega|assumption|skip))
  ((try refine CallT.toA ?_);refine callT_m (.inl ⟨rfl,rfl⟩) (by simp[go_sem]) ?_;intro args ha;simp[go_sem] at ha;subst ha;refine ⟨_, C1, ?_⟩;rintro _ rfl;simp[go_sem];((repeat' (first|(refine ag_x ?_;simp[go_sem])|intro _|apply And.intro|(apply Yh;clear Yh Y)));all_goals first|apply Hold.mk|omega|assumption|skip))
  (refine awp_if fun T F hT hF=>?_;simp[go_sem];refine BR.intro (fun h5=>hT ?_) (fun h5=>hF ?_);all_goals clear hT hF T F;try simp at h5)
  ·(refine awp_r fun Y Yh=>?_;simp[go_sem];((repeat' (first|(refine ag_x ?_;simp[go_sem])|intro _|apply And.intro|(apply Yh;clear Yh Y)));all_goals first|apply Hold.mk|omega|assumption|skip))
   refine ⟨(m + 1, j), ?_, ⟨by simp only; omega, by simp only; omega, by simp only; omega⟩, by simp only; omega⟩
   (refine cov_of ?_ ?_ <;> simp[go_sem])
  ·(refine awp_r fun Y Yh=>?_;simp[go_sem];((repeat' (first|(refine ag_x ?_;simp[go_sem])|intro _|apply And.intro|(apply Yh;clear Yh Y)));all_goals first|apply Hold.mk|omega|assumption|skip))
   refine ⟨(i, m), ?_, ⟨by simp only; omega, by simp only; omega, by simp only; omega⟩, by simp only; omega⟩
   (refine cov_of ?_ ?_ <;> simp[go_sem])
 ·refine awp_exit ?_
  simp only [go_sem]
  refine hK1 _ ?_; clear hK1
  have e1 : i = c := by omega
  have e2 : j = c := by omega
  subst e1
  subst e2
  by_cases hlt : j < s.length
  ·obtain ⟨g, hg⟩ : ∃ g, s[j]? = some g := ⟨_, List.getElem?_eq_getElem (by omega)⟩
   have C1 := gem1_spec g n
   rw [hg] at hfd
   simp only at hfd
   have hz := @scmp_zero g.1 n
   generalize scmpV g.1 n = sv at *
   have hgi : gq.isSome = decide (sv = 0) := by
    rw [hfd]
    by_cases q : g.1 = n
    ·rw [if_pos q]; simp [hz.2 q]
    ·rw [if_neg q]; have : ¬ sv = 0 := fun e => q (hz.1 e)
     simp [this]
   have hlt' : (j : Int) < (s.length : Int) := by omega
   (refine awp_sr fun Y Yh=>?_;simp[go_sem, hg, hlt'];((repeat' (first|(refine ag_x ?_;simp[go_sem, hg, hlt'])|intro _|apply And.intro|(apply Yh;clear Yh Y)));all_goals first|apply Hold.mk|omega|assumption|skip))
   (refine agc_f (dI sv) (.inl ⟨rfl,rfl⟩) ?_ rfl ?_;(intro hc args ha;simp[go_sem] at ha;subst ha;exact C1);simp[go_sem];((repeat' (first|(refine ag_x ?_;simp[go_sem])|intro _|apply And.intro|(apply Yh;clear Yh Y)));all_goals first|apply Hold.mk|omega|assumption|skip))
   (refine awp_ret ?_;simp[go_sem, hgi])
  ·have : s[j]? = none := List.getElem?_eq_none (by omega)
   rw [this] at hfd
   simp only at hfd
   have hlt' : ¬ (j : Int) < (s.length : Int) := by omega
   (refine awp_sr fun Y Yh=>?_;simp[go_sem, hlt'];((repeat' (first|(refine ag_false ?_ ?_ ?_;(focus (simp[go_sem, undef, hlt'];done));(focus (simp[go_sem];done));simp[go_sem, hlt'])|(refine ag_true ?_ ?_;(focus (simp[go_sem, undef, hlt'];done));simp[go_sem, hlt'])|(refine ag_x ?_;simp[go_sem, undef, hlt'])|intro _|apply And.intro|(apply Yh;clear Yh Y)));all_goals first|apply Hold.mk|omega|assumption|skip))
   (refine awp_ret ?_;simp[go_sem, hfd])
theorem gem_spec (s : Src) (n : Bs) (hs : suV s = true) : PCall Tryz.prog 129 [dSrc s, dS n] fun r => r = .tup [dGm ((gemV s n).getD ([], [])), dB (gemV s n).isSome] := by 
 refine pcall_of Tryz.func129 rfl rfl Tryz.ntmps129 (rs := [.cell 4 119, .tmp 5]) (tys := [119, 4]) rfl rfl (by simp) ?_
 have ha := suV_asc hs
 have h15 := (suV_parts hs).1
 have B := search_spec s n ha (by omega)
 have hfd := @cnt_find s n ha
 have hcl := cnt_le s n
 generalize cntG s n = c at *
 generalize gemV s n = gq at *
 (refine awp_sr fun Y Yh=>?_;simp[go_sem];((repeat' (first|(refine ag_x ?_;simp[go_sem])|intro _|apply And.intro|(apply Yh;clear Yh Y)));all_goals first|apply Hold.mk|omega|assumption|skip))
 refine awp_frzbox 2 rfl rfl ?_
 simp only [go_sem]
 (refine awp_sr fun Y Yh=>?_;simp[go_sem];((repeat' (first|(refine ag_x ?_;simp[go_sem])|intro _|apply And.intro|(apply Yh;clear Yh Y)));all_goals first|apply Hold.mk|omega|assumption|skip))
 ((try refine CallT.toA ?_);refine callT_m (.inl ⟨rfl,rfl⟩) (by simp[go_sem]) ?_;intro args ha;simp[go_sem] at ha;subst ha;refine ⟨_, B, ?_⟩;rintro _ rfl;simp[go_sem];((repeat' (first|(refine ag_x ?_;simp[go_sem])|intro _|apply And.intro|(apply Yh;clear Yh Y)));all_goals first|apply Hold.mk|omega|assumption|skip))
 refine awp_seq_k fun K1 hK1 => ?_
 (refine awp_sr fun Y Yh=>?_;simp[go_sem];((repeat' (first|(refine ag_x ?_;simp[go_sem])|intro _|apply And.intro|(apply Yh;clear Yh Y)));all_goals first|apply Hold.mk|omega|assumption|skip))
 cases gq with
 | none =>
  (refine awp_if fun T F hT hF=>?_;simp[go_sem];refine hT ?_;clear hT hF T F)
  (refine awp_sr fun Y Yh=>?_;simp[go_sem];((repeat' (first|(refine ag_x ?_;simp[go_sem])|intro _|apply And.intro|(apply Yh;clear Yh Y)));all_goals first|apply Hold.mk|omega|assumption|skip))
  (refine awp_ret ?_;simp[go_sem])
 | some g =>
  (refine awp_if fun T F hT hF=>?_;simp[go_sem];refine hF ?_;clear hT hF T F)
  refine awp_skip ?_
  refine hK1 _ ?_; clear hK1
  obtain ⟨k, hk⟩ : ∃ k, s[c]? = some k := by
   cases h : s[c]? with
   | none => rw [h] at hfd; cases hfd
   | some k => exact ⟨k, rfl⟩
  have : k = g := by
   rw [hk] at hfd
   simp only at hfd
   split at hfd
   ·exact (Option.some.inj hfd).symm
   ·cases hfd
  subst this
  (refine awp_sr fun Y Yh=>?_;simp[go_sem, hk];((repeat' (first|(refine ag_x ?_;simp[go_sem, hk])|intro _|apply And.intro|(apply Yh;clear Yh Y)));all_goals first|apply Hold.mk|omega|assumption|skip))
  (refine awp_ret ?_;simp[go_sem])
/-! the solver: its box (900002), what is chosen (900003) -/
def mSn (m : List (Bs × Bs)) : List (Value × D) := m.map fun p => (.string ⟨p.1.toArray⟩, dS p.2)
@[go_sem] theorem mfind_mSn (r : Bs) : ∀ m : List (Bs × Bs), mfind 1 (.string ⟨r.toArray⟩) (mSn m) = some ((slook m r).map dS)
 | [] => rfl
 | (k, v) :: m => by
  have ih := mfind_mSn r m
  unfold mSn at ih ⊢
  simp only [List.map_cons, mfind, keyEq, beq_bs2, slook]
  by_cases h : r = k
  ·simp [h]
  ·have hb : (r == k) = false := by simp [h]
   simp [h, ih, hb]
@[go_sem] theorem mput_mSn (d v : Bs) : ∀ m : List (Bs × Bs), mput 1 (.string ⟨d.toArray⟩) (.v (.string ⟨v.toArray⟩)) (mSn m) = mSn (sput d v m)
 | [] => rfl
 | (k, w) :: m => by
  have ih := mput_mSn d v m
  unfold mSn at ih ⊢
  simp only [List.map_cons, mput, keyEq, beq_bs2, sput]
  by_cases h : d = k
  ·simp [h]
  ·have hb : (d == k) = false := by simp [h]
   simp [h, ih, hb]
@[go_sem] theorem mdel_mS (d : Bs) : ∀ m : List (Bs × Bs), mdel 1 (.string ⟨d.toArray⟩) (mSn m) = mSn (sdel d m)
 | [] => rfl
 | (k, w) :: m => by
  have ih := mdel_mS d m
  unfold mSn at ih ⊢
  simp only [List.map_cons, mdel, keyEq, beq_bs2, sdel]
  by_cases h : d = k
  ·simp [h]
  ·have hb : (d == k) = false := by simp [h]
   simp [h, ih, hb]
abbrev bXn (s : Src) (bud t : Int) (full : Bool) (N : List Prs) (gm : Nat) : Blk := .box [dGms s, dI bud, dI t, dB full, dPs N, .own 900003 gm]
abbrev hX (gb gm : Nat) (s : Src) (bud t : Int) (full : Bool) (N l : List Prs) : List (Nat × (Nat × Blk)) := [(900002, (gb, bXn s bud t full N gm)), (900003, (gm, .map (mSn l)))]
theorem hX_ok (gb gm : Nat) (s : Src) (bud t : Int) (full : Bool) (N l : List Prs) : ∀ p ∈ hX gb gm s bud t full N l, 900000 ≤ p.1 ∧ notFroz p.2.2 = true ∧ p.1 ∈ [900002, 900003] := by
 intro p hp
 simp only [hX, List.mem_cons, List.not_mem_nil, or_false] at hp
 rcases hp with rfl | rfl <;> simp [notFroz]
theorem clip_spec (l : List Prs) : PCall Tryz.prog 151 [dPs l] fun r => r = .slc 2 (l.map cP) := by 
 refine pcall_of Tryz.func151 rfl rfl Tryz.ntmps151 (rs := [.tmp 2]) (tys := [38]) rfl rfl (by simp) ?_
 (refine awp_sr fun Y Yh=>?_;simp[go_sem];((repeat' (first|(refine ag_x ?_;simp[go_sem])|intro _|apply And.intro|(apply Yh;clear Yh Y)));all_goals first|apply Hold.mk|omega|assumption|skip))
 (refine awp_sr fun Y Yh=>?_;simp[go_sem];((repeat' (first|(refine ag_x ?_;simp[go_sem])|intro _|apply And.intro|(apply Yh;clear Yh Y)));all_goals first|apply Hold.mk|omega|assumption|skip))
 (refine awp_ret ?_;simp[go_sem])
set_option maxHeartbeats 8000000 in
theorem next_spec (gb gm : Nat) (s : Src) (bud t : Int) (full : Bool) (N l : List Prs) (hN : N.length ≤ 1000000000) :
  ACall Tryz.prog 147 [.ptr 900002 gb 0] (hX gb gm s bud t full N l) [900002, 900003] fun ps r => ps = [(gb, bXn s bud t full N gm), (gm, .map (mSn l))] ∧ r = dS (nextV N l) := by 
 refine acall_of Tryz.func147 rfl rfl Tryz.ntmps147 (rs := [.tmp 2]) (tys := [9]) rfl rfl (by simp) ?_ ?_
 ·exact hX_ok gb gm s bud t full N l
 have hst := fun i n => @next_step N l i n
 have hz : N.find? (fun n => (slook l n.1).isNone) = (N.drop 0).find? (fun n => (slook l n.1).isNone) := rfl
 have he : (N.drop N.length).find? (fun n => (slook l n.1).isNone) = none := by rw [List.drop_length]; rfl
 unfold nextV
 rw [hz]
 obtain ⟨F, hF⟩ : ∃ F : Nat → Option Prs, ∀ i, (N.drop i).find? (fun n => (slook l n.1).isNone) = F i := ⟨_, fun _ => rfl⟩
 simp only [hF] at hst he ⊢
 clear hF hz
 (refine awp_sr fun Y Yh=>?_;simp[go_sem];((repeat' (first|(refine ag_x ?_;simp[go_sem])|intro _|apply And.intro|(apply Yh;clear Yh Y)));all_goals first|apply Hold.mk|omega|assumption|skip))
 refine awp_seq_k fun K1 hK1 => ?_
 (refine awp_sr fun Y Yh=>?_;simp[go_sem];((repeat' (first|(refine ag_x ?_;simp[go_sem])|intro _|apply And.intro|(apply Yh;clear Yh Y)));all_goals first|apply Hold.mk|omega|assumption|skip))
 refine awp_block ?_
 refine awp_loop (σ := Nat) (fun i => ⟨[(0, .ptr 900002 gb 0), (10, dPs N), (11, dI N.length), (12, dI i)], hX gb gm s bud t full N l⟩) (fun i => i ≤ N.length ∧ F 0 = F i) (fun i => N.length - i) 0 ?_ ?_ ?_
 ·(refine cov_of ?_ ?_ <;> simp[go_sem])
 ·exact ⟨by omega, rfl⟩
 rintro i ⟨hi, hf⟩
 (refine awp_sr fun Y Yh=>?_;simp[go_sem];((repeat' (first|(refine ag_x ?_;simp[go_sem])|intro _|apply And.intro|(apply Yh;clear Yh Y)));all_goals first|apply Hold.mk|omega|assumption|skip))
 refine awp_seq_k fun K2 hK2 => ?_
 (refine awp_if fun T F hT hF=>?_;simp[go_sem];refine BR.intro (fun h3=>hT ?_) (fun h3=>hF ?_);all_goals clear hT hF T F;try simp at h3)
 ·refine awp_skip ?_
  refine hK2 _ ?_; clear hK2
  obtain ⟨n, hn⟩ : ∃ n, N[i]? = some n := ⟨_, List.getElem?_eq_getElem (by omega)⟩
  have hst1 := hst i n hn
  refine awp_seq_k fun K4 hK4 => ?_
  refine awp_block ?_
  (refine awp_sr fun Y Yh=>?_;simp[go_sem, hn];((repeat' (first|(refine ag_x ?_;simp[go_sem, hn])|intro _|apply And.intro|(apply Yh;clear Yh Y)));all_goals first|apply Hold.mk|omega|assumption|skip))
  cases hq : slook l n.1 with
  | none =>
   rw [if_pos hq] at hst1
   ((refine awp_dr (.qs [0, 1, 2, 4, 3, 5, 6, 7, 8, 9, 10, 11] (.nil)) (by kernel_rfl) ?_ ?_ ?_ ?_);kernel_rfl;exact (by decide +kernel);kernel_rfl;intro Y Yh;((repeat' (first|(refine ag_x ?_;simp[go_sem, hq])|refine adr_nil ?_|((first|refine adr_qs fun Y Yh=>?_|refine adr_y fun Y Yh=>?_);simp[go_sem, hq])|intro _|apply And.intro|(apply Yh;clear Yh Y)));all_goals first|apply Hold.mk|omega|assumption|skip))
   (refine awp_sr fun Y Yh=>?_;simp[go_sem];((repeat' (first|(refine ag_x ?_;simp[go_sem])|intro _|apply And.intro|(apply Yh;clear Yh Y)));all_goals first|apply Hold.mk|omega|assumption|skip))
   (refine awp_if fun T F hT hF=>?_;simp[go_sem];refine hT ?_;clear hT hF T F)
   (refine awp_sr fun Y Yh=>?_;simp[go_sem];((repeat' (first|(refine ag_x ?_;simp[go_sem])|intro _|apply And.intro|(apply Yh;clear Yh Y)));all_goals first|apply Hold.mk|omega|assumption|skip))
   (refine awp_ret ?_;simp[go_sem, hf, hst1])
  | some v =>
   rw [if_neg (by rw [hq]; simp)] at hst1
   ((refine awp_dr (.qs [0, 1, 2, 4, 3, 5, 6, 7, 8, 9, 10, 11] (.nil)) (by kernel_rfl) ?_ ?_ ?_ ?_);kernel_rfl;exact (by decide +kernel);kernel_rfl;intro Y Yh;((repeat' (first|(refine ag_x ?_;simp[go_sem, hq])|refine adr_nil ?_|((first|refine adr_qs fun Y Yh=>?_|refine adr_y fun Y Yh=>?_);simp[go_sem, hq])|intro _|apply And.intro|(apply Yh;clear Yh Y)));all_goals first|apply Hold.mk|omega|assumption|skip))
   (refine awp_sr fun Y Yh=>?_;simp[go_sem];((repeat' (first|(refine ag_x ?_;simp[go_sem])|intro _|apply And.intro|(apply Yh;clear Yh Y)));all_goals first|apply Hold.mk|omega|assumption|skip))
   (refine awp_if fun T F hT hF=>?_;simp[go_sem];refine hF ?_;clear hT hF T F)
   refine awp_skip ?_
   refine hK4 _ ?_; clear hK4
   (refine awp_r fun Y Yh=>?_;simp[go_sem];((repeat' (first|(refine ag_x ?_;simp[go_sem])|intro _|apply And.intro|(apply Yh;clear Yh Y)));all_goals first|apply Hold.mk|omega|assumption|skip))
   refine ⟨i + 1, ?_, ⟨by omega, hf.trans hst1⟩, by omega⟩
   (refine cov_of ?_ ?_ <;> simp[go_sem])
 ·refine awp_exit ?_
  simp only [go_sem]
  refine hK1 _ ?_; clear hK1
  have : i = N.length := by omega
  subst this
  (refine awp_sr fun Y Yh=>?_;simp[go_sem];((repeat' (first|(refine ag_x ?_;simp[go_sem])|intro _|apply And.intro|(apply Yh;clear Yh Y)));all_goals first|apply Hold.mk|omega|assumption|skip))
  (refine awp_ret ?_;simp[go_sem, hf, he])
set_option maxHeartbeats 8000000 in
theorem fits_spec (gb gm : Nat) (s : Src) (bud t : Int) (full : Bool) (N l : List Prs) (gem : Bs) (v : Vrs) (hN : SzN N ∨ (N.length ≤ 1001000000 ∧ ∀ x ∈ N, Sz1 x)) (hl : ∀ x ∈ l, Sz1 x) (hno : NumOk l) (hg : pkdV l gem = []) (hv : SzV v) (hv0 : v.1 ≠ []) :
  ACall Tryz.prog 150 [.ptr 900002 gb 0, dS gem, dVr v] (hX gb gm s bud t full N l) [900002, 900003] fun ps r => ps = [(gb, bXn s bud t full N gm), (gm, .map (mSn l))] ∧ r = dB (fitV N l gem v) := by 
 refine acall_of Tryz.func150 rfl rfl Tryz.ntmps150 (rs := [.tmp 6]) (tys := [4]) rfl rfl (by simp) ?_ ?_
 ·exact hX_ok gb gm s bud t full N l
 obtain ⟨hNl, hN1⟩ : N.length ≤ 1001000000 ∧ ∀ x ∈ N, Sz1 x := by
  rcases hN with h | h
  ·exact ⟨by have := h.1; omega, h.2⟩
  ·exact h
 obtain ⟨num, W⟩ := v
 obtain ⟨hv1, hW, hW1⟩ := hv
 simp only at hv1 hW hW1 hv0
 have hbf := fun n => @bFit_eq l hno gem num hg hv0 n
 have hA := fun i x h => @all_take Prs (aFit gem num) N i x h
 have hB := fun i x h => @all_take Prs (bFit (l ++ [(gem, num)])) W i x h
 have hAe : (N.take N.length).all (aFit gem num) = N.all (aFit gem num) := by rw [List.take_length]
 have hBe : (W.take W.length).all (bFit (l ++ [(gem, num)])) = W.all (bFit (l ++ [(gem, num)])) := by rw [List.take_length]
 have hAb : ∀ i x, N[i]? = some x → aFit gem num x = false → N.all (aFit gem num) = false := fun i x h h2 => by
  rw [List.all_eq_false]; exact ⟨x, List.mem_of_getElem? h, by simp [h2]⟩
 have hBb : ∀ i x, W[i]? = some x → bFit (l ++ [(gem, num)]) x = false → W.all (bFit (l ++ [(gem, num)])) = false := fun i x h h2 => by
  rw [List.all_eq_false]; exact ⟨x, List.mem_of_getElem? h, by simp [h2]⟩
 have hA0 : (N.take 0).all (aFit gem num) = true := rfl
 have hB0 : (W.take 0).all (bFit (l ++ [(gem, num)])) = true := rfl
 unfold fitV
 simp only
 generalize hAB : N.all (aFit gem num) = aN at *
 generalize hBB : W.all (bFit (l ++ [(gem, num)])) = bW at *
 obtain ⟨FA, hFA⟩ : ∃ F : Nat → Bool, ∀ i, (N.take i).all (aFit gem num) = F i := ⟨_, fun _ => rfl⟩
 obtain ⟨FB, hFB⟩ : ∃ F : Nat → Bool, ∀ i, (W.take i).all (bFit (l ++ [(gem, num)])) = F i := ⟨_, fun _ => rfl⟩
 simp only [hFA] at hA hAe hA0
 simp only [hFB] at hB hBe hB0
 clear hFA hFB hAB hBB
 (refine awp_sr fun Y Yh=>?_;simp[go_sem];((repeat' (first|(refine ag_x ?_;simp[go_sem])|intro _|apply And.intro|(apply Yh;clear Yh Y)));all_goals first|apply Hold.mk|omega|assumption|skip))
 refine awp_frzbox 5 rfl rfl ?_
 simp only [go_sem]
 refine awp_seq_k fun K1 hK1 => ?_
 (refine awp_sr fun Y Yh=>?_;simp[go_sem];((repeat' (first|(refine ag_x ?_;simp[go_sem])|intro _|apply And.intro|(apply Yh;clear Yh Y)));all_goals first|apply Hold.mk|omega|assumption|skip))
 refine awp_block ?_
 refine awp_loop (σ := Nat) (fun i => ⟨[(0, .ptr 900002 gb 0), (1, dS gem), (5, .rd [dS num, dPs W]), (16, dPs N), (17, dI N.length), (18, dI i)], hX gb gm s bud t full N l⟩) (fun i => i ≤ N.length ∧ FA i = true) (fun i => N.length - i) 0 ?_ ?_ ?_
 ·(refine cov_of ?_ ?_ <;> simp[go_sem])
 ·exact ⟨by omega, hA0⟩
 rintro i ⟨hi, hf⟩
 (refine awp_sr fun Y Yh=>?_;simp[go_sem];((repeat' (first|(refine ag_x ?_;simp[go_sem])|intro _|apply And.intro|(apply Yh;clear Yh Y)));all_goals first|apply Hold.mk|omega|assumption|skip))
 refine awp_seq_k fun K2 hK2 => ?_
 (refine awp_if fun T F hT hF=>?_;simp[go_sem];refine BR.intro (fun h3=>hT ?_) (fun h3=>hF ?_);all_goals clear hT hF T F;try simp at h3)
 ·refine awp_skip ?_
  refine hK2 _ ?_; clear hK2
  obtain ⟨n, hn⟩ : ∃ n, N[i]? = some n := ⟨_, List.getElem?_eq_getElem (by omega)⟩
  obtain ⟨_, hn2⟩ := hN1 n (List.mem_of_getElem? hn)
  have hA1 := hA i n hn
  have hAb1 := hAb i n hn
  have M := smeets_spec num n.2 hv1 hn2
  have ha : aFit gem num n = (decide (n.1 ≠ gem) || meetsP num n.2) := rfl
  rw [ha] at hA1 hAb1
  generalize meetsP num n.2 = mb at *
  refine awp_seq_k fun K4 hK4 => ?_
  refine awp_block ?_
  (refine awp_sr fun Y Yh=>?_;simp[go_sem, hn];((repeat' (first|(refine ag_x ?_;simp[go_sem, hn])|intro _|apply And.intro|(apply Yh;clear Yh Y)));all_goals first|apply Hold.mk|omega|assumption|skip))
  by_cases hg2 : n.1 = gem
  ·(refine awp_sr fun Y Yh=>?_;simp[go_sem, hg2];((repeat' (first|(refine ag_x ?_;simp[go_sem, hg2])|intro _|apply And.intro|(apply Yh;clear Yh Y)));all_goals first|apply Hold.mk|omega|assumption|skip))
   (refine agc_f (dB mb) (.inl ⟨rfl,rfl⟩) ?_ rfl ?_;(intro hc args ha;simp[go_sem] at ha;subst ha;exact M);simp[go_sem];((repeat' (first|(refine ag_x ?_;simp[go_sem])|intro _|apply And.intro|(apply Yh;clear Yh Y)));all_goals first|apply Hold.mk|omega|assumption|skip))
   cases mb with
   | false =>
    have hF := hAb1 (by simp [hg2])
    (refine awp_if fun T F hT hF=>?_;simp[go_sem];refine hT ?_;clear hT hF T F)
    (refine awp_sr fun Y Yh=>?_;simp[go_sem];((repeat' (first|(refine ag_x ?_;simp[go_sem])|intro _|apply And.intro|(apply Yh;clear Yh Y)));all_goals first|apply Hold.mk|omega|assumption|skip))
    (refine awp_ret ?_;simp[go_sem, hF])
   | true =>
    (refine awp_if fun T F hT hF=>?_;simp[go_sem];refine hF ?_;clear hT hF T F)
    refine awp_skip ?_
    refine hK4 _ ?_; clear hK4
    (refine awp_r fun Y Yh=>?_;simp[go_sem];((repeat' (first|(refine ag_x ?_;simp[go_sem])|intro _|apply And.intro|(apply Yh;clear Yh Y)));all_goals first|apply Hold.mk|omega|assumption|skip))
    refine ⟨i + 1, ?_, ⟨by omega, by rw [hA1, hf]; simp⟩, by omega⟩
    (refine cov_of ?_ ?_ <;> simp[go_sem])
  ·(refine awp_sr fun Y Yh=>?_;simp[go_sem, hg2];((repeat' (first|(refine ag_false ?_ ?_ ?_;(focus (simp[go_sem, undef, hg2];done));(focus (simp[go_sem];done));simp[go_sem, hg2])|(refine ag_true ?_ ?_;(focus (simp[go_sem, undef, hg2];done));simp[go_sem, hg2])|(refine ag_x ?_;simp[go_sem, undef, hg2])|intro _|apply And.intro|(apply Yh;clear Yh Y)));all_goals first|apply Hold.mk|omega|assumption|skip))
   (refine awp_if fun T F hT hF=>?_;simp[go_sem];refine hF ?_;clear hT hF T F)
   refine awp_skip ?_
   refine hK4 _ ?_; clear hK4
   (refine awp_r fun Y Yh=>?_;simp[go_sem];((repeat' (first|(refine ag_x ?_;simp[go_sem])|intro _|apply And.intro|(apply Yh;clear Yh Y)));all_goals first|apply Hold.mk|omega|assumption|skip))
   refine ⟨i + 1, ?_, ⟨by omega, by rw [hA1, hf]; simp [hg2]⟩, by omega⟩
   (refine cov_of ?_ ?_ <;> simp[go_sem])
 ·refine awp_exit ?_
  simp only [go_sem]
  refine hK1 _ ?_; clear hK1
  have : i = N.length := by omega
  subst this
  rw [hAe] at hf
  subst hf
  refine awp_seq_k fun K5 hK5 => ?_
  (refine awp_sr fun Y Yh=>?_;simp[go_sem];((repeat' (first|(refine ag_x ?_;simp[go_sem])|intro _|apply And.intro|(apply Yh;clear Yh Y)));all_goals first|apply Hold.mk|omega|assumption|skip))
  refine awp_block ?_
  refine awp_loop (σ := Nat) (fun i => ⟨[(0, .ptr 900002 gb 0), (1, dS gem), (5, .rd [dS num, dPs W]), (36, dPs W), (37, dI W.length), (38, dI i)], hX gb gm s bud t full N l⟩) (fun i => i ≤ W.length ∧ FB i = true) (fun i => W.length - i) 0 ?_ ?_ ?_
  ·(refine cov_of ?_ ?_ <;> simp[go_sem])
  ·exact ⟨by omega, hB0⟩
  rintro i ⟨hi, hf⟩
  (refine awp_sr fun Y Yh=>?_;simp[go_sem];((repeat' (first|(refine ag_x ?_;simp[go_sem])|intro _|apply And.intro|(apply Yh;clear Yh Y)));all_goals first|apply Hold.mk|omega|assumption|skip))
  refine awp_seq_k fun K6 hK6 => ?_
  (refine awp_if fun T F hT hF=>?_;simp[go_sem];refine BR.intro (fun h7=>hT ?_) (fun h7=>hF ?_);all_goals clear hT hF T F;try simp at h7)
  ·refine awp_skip ?_
   refine hK6 _ ?_; clear hK6
   obtain ⟨n, hn⟩ : ∃ n, W[i]? = some n := ⟨_, List.getElem?_eq_getElem (by omega)⟩
   obtain ⟨_, hn2⟩ := hW1 n (List.mem_of_getElem? hn)
   have hB1 := hB i n hn
   have hBb1 := hBb i n hn
   rw [hbf n] at hB1 hBb1
   refine awp_seq_k fun K8 hK8 => ?_
   refine awp_block ?_
   (refine awp_sr fun Y Yh=>?_;simp[go_sem, hn];((repeat' (first|(refine ag_x ?_;simp[go_sem, hn])|intro _|apply And.intro|(apply Yh;clear Yh Y)));all_goals first|apply Hold.mk|omega|assumption|skip))
   by_cases hg2 : n.1 = gem
   ·have hq : slook l n.1 = none := by rw [hg2]; exact (slook_none hno).2 hg
    have M := smeets_spec num n.2 hv1 hn2
    have ho : oneN l gem num n = some num := by unfold oneN; rw [if_pos hg2]
    rw [ho] at hB1 hBb1
    simp only at hB1 hBb1
    generalize meetsP num n.2 = mb at *
    ((refine awp_dr (.qs [0, 1, 2, 4, 3, 5, 6, 7, 8, 9, 10, 11] (.nil)) (by kernel_rfl) ?_ ?_ ?_ ?_);kernel_rfl;exact (by decide +kernel);kernel_rfl;intro Y Yh;((repeat' (first|(refine ag_x ?_;simp[go_sem, hq])|refine adr_nil ?_|((first|refine adr_qs fun Y Yh=>?_|refine adr_y fun Y Yh=>?_);simp[go_sem, hq])|intro _|apply And.intro|(apply Yh;clear Yh Y)));all_goals first|apply Hold.mk|omega|assumption|skip))
    refine awp_seq_k fun K9 hK9 => ?_
    (refine awp_sr fun Y Yh=>?_;simp[go_sem];((repeat' (first|(refine ag_x ?_;simp[go_sem])|intro _|apply And.intro|(apply Yh;clear Yh Y)));all_goals first|apply Hold.mk|omega|assumption|skip))
    (refine awp_if fun T F hT hF=>?_;simp[go_sem, hg2];refine hT ?_;clear hT hF T F)
    (refine awp_r fun Y Yh=>?_;simp[go_sem];((repeat' (first|(refine ag_x ?_;simp[go_sem])|intro _|apply And.intro|(apply Yh;clear Yh Y)));all_goals first|apply Hold.mk|omega|assumption|skip))
    refine hK9 _ ?_; clear hK9
    (refine awp_sr fun Y Yh=>?_;simp[go_sem];((repeat' (first|(refine ag_x ?_;simp[go_sem])|intro _|apply And.intro|(apply Yh;clear Yh Y)));all_goals first|apply Hold.mk|omega|assumption|skip))
    (refine agc_f (dB mb) (.inl ⟨rfl,rfl⟩) ?_ rfl ?_;(intro hc args ha;simp[go_sem] at ha;subst ha;exact M);simp[go_sem];((repeat' (first|(refine ag_x ?_;simp[go_sem])|intro _|apply And.intro|(apply Yh;clear Yh Y)));all_goals first|apply Hold.mk|omega|assumption|skip))
    cases mb with
    | false =>
     have hF := hBb1 rfl
     (refine awp_if fun T F hT hF=>?_;simp[go_sem];refine hT ?_;clear hT hF T F)
     (refine awp_sr fun Y Yh=>?_;simp[go_sem];((repeat' (first|(refine ag_x ?_;simp[go_sem])|intro _|apply And.intro|(apply Yh;clear Yh Y)));all_goals first|apply Hold.mk|omega|assumption|skip))
     (refine awp_ret ?_;simp[go_sem, hF])
    | true =>
     (refine awp_if fun T F hT hF=>?_;simp[go_sem];refine hF ?_;clear hT hF T F)
     refine awp_skip ?_
     refine hK8 _ ?_; clear hK8
     (refine awp_r fun Y Yh=>?_;simp[go_sem];((repeat' (first|(refine ag_x ?_;simp[go_sem])|intro _|apply And.intro|(apply Yh;clear Yh Y)));all_goals first|apply Hold.mk|omega|assumption|skip))
     refine ⟨i + 1, ?_, ⟨by omega, by rw [hB1, hf]; simp⟩, by omega⟩
     (refine cov_of ?_ ?_ <;> simp[go_sem])
   ·have hgb : (n.1 == gem) = false := by simp [hg2]
    cases hq : slook l n.1 with
    | none =>
     have ho : oneN l gem num n = none := by unfold oneN; rw [if_neg hg2]; exact hq
     rw [ho] at hB1 hBb1
     simp only at hB1 hBb1
     ((refine awp_dr (.qs [0, 1, 2, 4, 3, 5, 6, 7, 8, 9, 10, 11] (.nil)) (by kernel_rfl) ?_ ?_ ?_ ?_);kernel_rfl;exact (by decide +kernel);kernel_rfl;intro Y Yh;((repeat' (first|(refine ag_x ?_;simp[go_sem, hq])|refine adr_nil ?_|((first|refine adr_qs fun Y Yh=>?_|refine adr_y fun Y Yh=>?_);simp[go_sem, hq])|intro _|apply And.intro|(apply Yh;clear Yh Y)));all_goals first|apply Hold.mk|omega|assumption|skip))
     refine awp_seq_k fun K9 hK9 => ?_
     (refine awp_sr fun Y Yh=>?_;simp[go_sem];((repeat' (first|(refine ag_x ?_;simp[go_sem])|intro _|apply And.intro|(apply Yh;clear Yh Y)));all_goals first|apply Hold.mk|omega|assumption|skip))
     (refine awp_if fun T F hT hF=>?_;simp[go_sem, hgb];refine hF ?_;clear hT hF T F)
     refine awp_skip ?_
     refine hK9 _ ?_; clear hK9
     (refine awp_sr fun Y Yh=>?_;simp[go_sem];((repeat' (first|(refine ag_false ?_ ?_ ?_;(focus (simp[go_sem, undef];done));(focus (simp[go_sem];done));simp[go_sem])|(refine ag_true ?_ ?_;(focus (simp[go_sem, undef];done));simp[go_sem])|(refine ag_x ?_;simp[go_sem, undef])|intro _|apply And.intro|(apply Yh;clear Yh Y)));all_goals first|apply Hold.mk|omega|assumption|skip))
     (refine awp_if fun T F hT hF=>?_;simp[go_sem];refine hF ?_;clear hT hF T F)
     refine awp_skip ?_
     refine hK8 _ ?_; clear hK8
     (refine awp_r fun Y Yh=>?_;simp[go_sem];((repeat' (first|(refine ag_x ?_;simp[go_sem])|intro _|apply And.intro|(apply Yh;clear Yh Y)));all_goals first|apply Hold.mk|omega|assumption|skip))
     refine ⟨i + 1, ?_, ⟨by omega, by rw [hB1, hf]; simp⟩, by omega⟩
     (refine cov_of ?_ ?_ <;> simp[go_sem])
    | some o =>
     have M := smeets_spec o n.2 (hl _ (slook_some_mem hq)).2 hn2
     have ho : oneN l gem num n = some o := by unfold oneN; rw [if_neg hg2]; exact hq
     rw [ho] at hB1 hBb1
     simp only at hB1 hBb1
     generalize meetsP o n.2 = mb at *
     ((refine awp_dr (.qs [0, 1, 2, 4, 3, 5, 6, 7, 8, 9, 10, 11] (.nil)) (by kernel_rfl) ?_ ?_ ?_ ?_);kernel_rfl;exact (by decide +kernel);kernel_rfl;intro Y Yh;((repeat' (first|(refine ag_x ?_;simp[go_sem, hq])|refine adr_nil ?_|((first|refine adr_qs fun Y Yh=>?_|refine adr_y fun Y Yh=>?_);simp[go_sem, hq])|intro _|apply And.intro|(apply Yh;clear Yh Y)));all_goals first|apply Hold.mk|omega|assumption|skip))
     refine awp_seq_k fun K9 hK9 => ?_
     (refine awp_sr fun Y Yh=>?_;simp[go_sem];((repeat' (first|(refine ag_x ?_;simp[go_sem])|intro _|apply And.intro|(apply Yh;clear Yh Y)));all_goals first|apply Hold.mk|omega|assumption|skip))
     (refine awp_if fun T F hT hF=>?_;simp[go_sem, hgb];refine hF ?_;clear hT hF T F)
     refine awp_skip ?_
     refine hK9 _ ?_; clear hK9
     (refine awp_sr fun Y Yh=>?_;simp[go_sem];((repeat' (first|(refine ag_x ?_;simp[go_sem])|intro _|apply And.intro|(apply Yh;clear Yh Y)));all_goals first|apply Hold.mk|omega|assumption|skip))
     (refine agc_f (dB mb) (.inl ⟨rfl,rfl⟩) ?_ rfl ?_;(intro hc args ha;simp[go_sem] at ha;subst ha;exact M);simp[go_sem];((repeat' (first|(refine ag_x ?_;simp[go_sem])|intro _|apply And.intro|(apply Yh;clear Yh Y)));all_goals first|apply Hold.mk|omega|assumption|skip))
     cases mb with
     | false =>
      have hF := hBb1 rfl
      (refine awp_if fun T F hT hF=>?_;simp[go_sem];refine hT ?_;clear hT hF T F)
      (refine awp_sr fun Y Yh=>?_;simp[go_sem];((repeat' (first|(refine ag_x ?_;simp[go_sem])|intro _|apply And.intro|(apply Yh;clear Yh Y)));all_goals first|apply Hold.mk|omega|assumption|skip))
      (refine awp_ret ?_;simp[go_sem, hF])
     | true =>
      (refine awp_if fun T F hT hF=>?_;simp[go_sem];refine hF ?_;clear hT hF T F)
      refine awp_skip ?_
      refine hK8 _ ?_; clear hK8
      (refine awp_r fun Y Yh=>?_;simp[go_sem];((repeat' (first|(refine ag_x ?_;simp[go_sem])|intro _|apply And.intro|(apply Yh;clear Yh Y)));all_goals first|apply Hold.mk|omega|assumption|skip))
      refine ⟨i + 1, ?_, ⟨by omega, by rw [hB1, hf]; simp⟩, by omega⟩
      (refine cov_of ?_ ?_ <;> simp[go_sem])
  ·refine awp_exit ?_
   simp only [go_sem]
   refine hK5 _ ?_; clear hK5
   have : i = W.length := by omega
   subst this
   rw [hBe] at hf
   subst hf
   (refine awp_sr fun Y Yh=>?_;simp[go_sem];((repeat' (first|(refine ag_x ?_;simp[go_sem])|intro _|apply And.intro|(apply Yh;clear Yh Y)));all_goals first|apply Hold.mk|omega|assumption|skip))
   (refine awp_ret ?_;simp[go_sem])
end Go.Proofs.YteekfnhhlcmcgaaGreatDoor
