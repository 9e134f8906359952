/- Part of a proof: see the last text. -/
import Derived.Test.YteekfnhhlcmcgaaGreatDoorH06
import Derived.Test.YteekfnhhlcmcgaaGreatDoorH03
import Derived.Lib.IndexMore
import Derived.Lib.IndexLaws
import Derived.Laws.RangeAny
import Derived.Shelf.GgClosure.StringsIndexFuncTop
set_option linter.unusedVariables false
set_option linter.unusedSimpArgs false
namespace Go.Proofs.YteekfnhhlcmcgaaGreatDoor
open Go.Eng Go.Wh Go.Ver
set_option maxRecDepth 20000
attribute [local irreducible] AG CallA CallT AWp PCall ACall AgC
theorem Zn (l : List Seg) (hl : l.length ≤ 1000) (h1 : 1 ≤ wordsV l) (hn : ∀ x ∈ l, 0 ≤ x.2 ∧ x.2 ≤ 1000000000) : PCall Tryz.prog 304 [dGs l] fun r => r = dGs (bumpV l) := by 
 refine qw Tryz.func304 rfl rfl Tryz.ntmps304 (rs := [.tmp 2]) (tys := [183]) rfl rfl (by simp) ?_
 have W := jO l (by omega)
 have hwl := zF l
 have hbl := bumpN_le l
 obtain ⟨x, hx, hml, hm1, hxm, hb⟩ := bump_last h1
 have hxn := hn x hxm
 rw [hb]
 have hdrop : 1 < wordsV l → (l.take (wordsV l)).take (wordsV l - 1) = l.take (bumpN l) := by
  intro h; unfold bumpN; rw [if_pos h, List.take_take]; congr 1; omega
 have hsame : ¬ 1 < wordsV l → l.take (wordsV l) = l.take (bumpN l) := by
  intro h; unfold bumpN; rw [if_neg h]
 have hlen : (l.take (wordsV l)).length = wordsV l := by simp; omega
 have hlen' : min (wordsV l) l.length = wordsV l := by omega
 generalize hm : l.take (bumpN l) = m at *
 (refine qc fun Y Yh=>?_;simp[go_sem];apply Yh;clear Yh Y;apply Xi)
 (refine qc fun Y Yh=>?_;simp[go_sem];intro _)
 ((try refine Xj ?_);refine qm (.inl ⟨rfl,rfl⟩) (by simp[go_sem]) ?_;intro args ha;simp[go_sem] at ha;subst ha;refine ⟨_, W, ?_⟩;rintro _ rfl;simp[go_sem];((repeat' (first|intro _|apply And.intro|(apply Yh;clear Yh Y)));all_goals first|apply Xi|omega))
 rename_i g4 gw
 refine qf fun K1 hK1 => ?_
 have tl1 : ∀ S' g, Cov S' ⟨[(3, .own 4 g)], [(4, g, .row 229 2 (m.map cG))]⟩ → K1 S' := fun S' g hS => by
  refine hK1 _ ?_
  refine qN hS ?_; clear hS
  have hidx : ((m.length : Int) - 1).toNat = m.length - 1 := by omega
  (refine qc fun Y Yh=>?_;simp[go_sem, hx, hidx];((repeat' (first|apply And.intro|(apply Yh;clear Yh Y)));all_goals first|apply Xi|omega))
  (refine qc fun Y Yh=>?_;simp[go_sem];apply Yh;clear Yh Y;apply Xi)
  (refine qi ?_;simp[go_sem, hx, hidx])
 (refine qc fun Y Yh=>?_;simp[go_sem, hlen'];apply Yh;clear Yh Y;apply Xi)
 (refine qg fun T F hT hF=>?_;simp[go_sem];refine BR.intro (fun h2=>hT ?_) (fun h2=>hF ?_);all_goals clear hT hF T F;try simp at h2) 
 ·(refine qB fun Y Yh=>?_;simp[go_sem, hlen'];((repeat' (first|intro _|apply And.intro|(apply Yh;clear Yh Y)));all_goals first|apply Xi|omega))
  rename_i g'
  refine tl1 _ g' ?_
  rw [← hdrop (by omega)]
  (refine ql ?_ ?_ <;> simp[go_sem, hlen'])
  all_goals omega
 ·refine qh ?_
  refine tl1 _ gw ?_
  rw [← hsame (by omega)]
  (refine ql ?_ ?_ <;> simp[go_sem])
theorem jT (v : List UInt8) (hl : v.length ≤ 1000000000) : PCall Tryz.prog 108 [dS v] fun r => r = dB (readV v).isSome := by 
 refine qw Tryz.func108 rfl rfl Tryz.ntmps108 (rs := [.tmp 2]) (tys := [4]) rfl rfl (by simp) ?_
 have R1 := zO v hl
 (refine qc fun Y Yh=>?_;simp[go_sem];apply Yh;clear Yh Y;apply Xi)
 (refine qc fun Y Yh=>?_;simp[go_sem])
 ((try refine Xj ?_);refine qm (.inl ⟨rfl,rfl⟩) (by simp[go_sem]) ?_;intro args ha;simp[go_sem] at ha;subst ha;refine ⟨_, R1, ?_⟩;rintro _ rfl;simp[go_sem];apply Yh;clear Yh Y;apply Xi)
 (refine qc fun Y Yh=>?_;simp[go_sem];apply Yh;clear Yh Y;apply Xi)
 (refine qi ?_;simp[go_sem])
theorem vX (v : List UInt8) (hl : v.length ≤ 1000000000) : PCall Tryz.prog 124 [dS v] fun r => r = dB (readV v).isSome := by 
 refine qw Tryz.func124 rfl rfl Tryz.ntmps124 (rs := [.tmp 2]) (tys := [4]) rfl rfl (by simp) ?_
 have R1 := jv v hl
 (refine qc fun Y Yh=>?_;simp[go_sem];apply Yh;clear Yh Y;apply Xi)
 (refine qc fun Y Yh=>?_;simp[go_sem])
 ((try refine Xj ?_);refine qm (.inl ⟨rfl,rfl⟩) (by simp[go_sem]) ?_;intro args ha;simp[go_sem] at ha;subst ha;refine ⟨_, R1, ?_⟩;rintro _ rfl;simp[go_sem];apply Yh;clear Yh Y;apply Xi)
 (refine qc fun Y Yh=>?_;simp[go_sem];apply Yh;clear Yh Y;apply Xi)
 (refine qi ?_;simp[go_sem])
@[go_sem] abbrev cRC (c : Cnd) : List D := [dS c.1, dS (textV c.2)]
@[go_sem] abbrev dRC (c : Cnd) : D := .agg [dS c.1, dS (textV c.2)]
@[go_sem] abbrev dRCs (l : List Cnd) : D := .sl 2 (l.map cRC)
set_option maxHeartbeats 8000000 in
theorem jw (r : List UInt8) (hl : r.length ≤ 1000000) : PCall Tryz.prog 188 [dS r] fun x => x = .tup [dRCs (condsP r), dB (condsV r).isSome] := by 
 refine qw Tryz.func188 rfl rfl Tryz.ntmps188 (rs := [.tmp 2, .tmp 3]) (tys := [263, 4]) rfl rfl (by simp) ?_
 have S1 := zZ r [44, 32] (by omega) (by simp)
 rw [split_csv] at S1
 have hdl := csv_len 44 32 r
 have hdp := csv_part 44 32 r
 have hdn := csv_ne 44 32 r
 unfold condsP condsV
 (refine qc fun Y Yh=>?_;simp[go_sem];apply Yh;clear Yh Y;apply Xi)
 refine qf fun K1 hK1 => ?_
 (refine qc fun Y Yh=>?_;simp[go_sem];apply Yh;clear Yh Y;apply Xi)
 (refine qg fun T F hT hF=>?_;simp[go_sem];refine BR.intro (fun h2=>hT ?_) (fun h2=>hF ?_);all_goals clear hT hF T F;try simp at h2) 
 ·(refine qc fun Y Yh=>?_;simp[go_sem];apply Yh;clear Yh Y;apply Xi)
  (refine qi ?_;simp[go_sem, h2])
 ·refine qh ?_
  refine hK1 _ ?_; clear hK1
  simp only [h2, if_false]
  generalize hps : csv 44 32 r = ps at *
  (refine qc fun Y Yh=>?_;simp[go_sem])
  ((try refine Xj ?_);refine qm (.inl ⟨rfl,rfl⟩) (by simp[go_sem]) ?_;intro args ha;simp[go_sem] at ha;subst ha;refine ⟨_, S1, ?_⟩;rintro _ rfl;simp[go_sem];apply Yh;clear Yh Y;apply Xi)
  (refine qc fun Y Yh=>?_;simp[go_sem];apply Yh;clear Yh Y;apply Xi)
  refine qU 5 5 304 2 rfl fun g5 => ?_
  simp only [go_sem]
  refine qf fun K3 hK3 => ?_
  (refine qc fun Y Yh=>?_;simp[go_sem];apply Yh;clear Yh Y;apply Xi)
  refine qj ?_
  refine qx (σ := Nat × List Cnd × Nat) (fun x => ⟨[(4, dSs ps), (5, .own 5 x.2.2), (6, dI x.1)], [(5, x.2.2, .row 304 2 (x.2.1.map cRC))]⟩) (fun x => x.1 ≤ ps.length ∧ x.2.1.length = x.1 ∧ cndsV (ps.take x.1) = some x.2.1) (fun x => ps.length - x.1) (0, [], g5) ?_ ?_ ?_
  ·(refine ql ?_ ?_ <;> simp[go_sem])
  ·exact ⟨by omega, rfl, rfl⟩
  rintro ⟨i, out, g⟩ ⟨hi, ho, hs⟩
  simp only at hi ho hs
  refine qf fun K4 hK4 => ?_
  (refine qc fun Y Yh=>?_;simp[go_sem];apply Yh;clear Yh Y;apply Xi)
  (refine qg fun T F hT hF=>?_;simp[go_sem];refine BR.intro (fun h5=>hT ?_) (fun h5=>hF ?_);all_goals clear hT hF T F;try simp at h5) 
  ·refine qh ?_
   refine hK4 _ ?_; clear hK4
   have hi' : i < ps.length := by omega
   obtain ⟨p, hp⟩ : ∃ p, ps[i]? = some p := ⟨_, List.getElem?_eq_getElem hi'⟩
   have hpm : p ∈ ps := List.mem_of_getElem? hp
   have hpl := hdp p hpm
   have R1 := Z7 p [32] (by omega)
   have hbad := wV hpm
   have hsn := fun (x : Cnd) (h : cndV p = some x) => vO hs h
   obtain ⟨o, v, is, hcut⟩ : ∃ o v is, Lib.cut p [32] = (o, v, is) := ⟨_, _, _, rfl⟩
   rw [hcut] at R1
   simp only at R1
   have hcc := cut_cnd hcut
   have hcl := cut_len hcut
   have hms := fun (h : is = false) => cut_miss (p := p) (o := o) (v := v) (by rw [← h]; exact hcut)
   have R2 := jT v (by omega)
   have hrk := @jQ v
   refine qf fun K6 hK6 => ?_
   refine qj ?_
   (refine qc fun Y Yh=>?_;simp[go_sem, hp])
   ((try refine Xj ?_);refine qm (.inl ⟨rfl,rfl⟩) (by simp[go_sem]) ?_;intro args ha;simp[go_sem] at ha;subst ha;refine ⟨_, R1, ?_⟩;rintro _ rfl;simp[go_sem];apply Yh;clear Yh Y;apply Xi)
   refine qf fun K7 hK7 => ?_
   (refine qc fun Y Yh=>?_;simp[go_sem];apply Yh;clear Yh Y;apply Xi)
   refine qj ?_
   refine qf fun K8 hK8 => ?_
   have tl8 : ∀ S', Cov S' ⟨[(4, dSs ps), (5, .own 5 g), (6, dI i), (7, dS o), (8, dS v), (30, dB (decide (o ∈ opsV)))], [(5, g, .row 304 2 (out.map cRC))]⟩ → K8 S' := fun S' hS => by
    refine hK8 _ ?_; clear hK8
    refine qN hS ?_; clear hS
    (refine qg fun T F hT hF=>?_;simp[go_sem];refine BR.intro (fun h9=>hT ?_) (fun h9=>hF ?_);all_goals clear hT hF T F;try simp at h9) 
    ·refine qh ?_
     refine hK7 _ ?_; clear hK7
     refine qf fun K10 hK10 => ?_
     generalize hsv : readV v = sv at *
     (refine qc fun Y Yh=>?_;simp[go_sem])
     ((try refine Xj ?_);refine qm (.inl ⟨rfl,rfl⟩) (by simp[go_sem]) ?_;intro args ha;simp[go_sem] at ha;subst ha;refine ⟨_, R2, ?_⟩;rintro _ rfl;simp[go_sem];apply Yh;clear Yh Y;apply Xi)
     cases sv with
     | none =>
      (refine qg fun T F hT hF=>?_;simp[go_sem];refine hT ?_;clear hT hF T F)
      (refine qc fun Y Yh=>?_;simp[go_sem];apply Yh;clear Yh Y;apply Xi)
      (refine qi ?_;simp[go_sem, hbad (by rw [hcc]; simp)])
     | some l =>
      obtain ⟨hvo, hvt, hvl⟩ := hrk rfl
      have his : is = true := by
       cases is with
       | true => rfl
       | false =>
        have := (hms rfl).1
        subst this
        rw [J4] at hsv
        cases hsv
      subst his
      simp only [h9, true_and, if_true, Option.map_some] at hcc
      (refine qg fun T F hT hF=>?_;simp[go_sem];refine hF ?_;clear hT hF T F)
      refine qh ?_
      refine hK10 _ ?_; clear hK10
      (refine qB fun Y Yh=>?_;simp[go_sem];((repeat' (first|intro _|apply And.intro|(apply Yh;clear Yh Y)));all_goals first|apply Xi|omega))
      refine hK6 _ ?_; clear hK6
      (refine qB fun Y Yh=>?_;simp[go_sem];((repeat' (first|apply And.intro|(apply Yh;clear Yh Y)));all_goals first|apply Xi|omega))
      rename_i g28 g'
      have e : ps.take (i + 1) = ps.take i ++ [p] := by rw [List.take_add_one, hp]; rfl
      refine ⟨(i + 1, out ++ [(o, l)], g'), ?_, ⟨by simp only; omega, by simp [ho], ?_⟩, by simp only; omega⟩
      ·(refine ql ?_ ?_ <;> simp[go_sem, hvt])
      ·simp only [e]
       exact hsn _ hcc
    ·(refine qc fun Y Yh=>?_;simp[go_sem];apply Yh;clear Yh Y;apply Xi)
     (refine qi ?_;simp[go_sem, hbad (by rw [hcc]; simp [h9])])
   clear hK8
   (refine qc fun Y Yh=>?_;simp[go_sem];apply Yh;clear Yh Y;apply Xi)
   (refine qg fun T F hT hF=>?_;simp[go_sem];refine BR.intro (fun h12=>hT ?_) (fun h12=>hF ?_);all_goals clear hT hF T F;try simp at h12) 
   ·refine qh ?_
    refine tl8 _ ?_
    (refine ql ?_ ?_ <;> simp[go_sem, h12, opsV])
   ·(refine qc fun Y Yh=>?_;simp[go_sem];apply Yh;clear Yh Y;apply Xi)
    (refine qg fun T F hT hF=>?_;simp[go_sem];refine BR.intro (fun h13=>hT ?_) (fun h13=>hF ?_);all_goals clear hT hF T F;try simp at h13) 
    ·refine qh ?_
     refine tl8 _ ?_
     (refine ql ?_ ?_ <;> simp[go_sem, h13, opsV])
    ·(refine qc fun Y Yh=>?_;simp[go_sem];apply Yh;clear Yh Y;apply Xi)
     (refine qg fun T F hT hF=>?_;simp[go_sem];refine BR.intro (fun h14=>hT ?_) (fun h14=>hF ?_);all_goals clear hT hF T F;try simp at h14) 
     ·refine qh ?_
      refine tl8 _ ?_
      (refine ql ?_ ?_ <;> simp[go_sem, h14, opsV])
     ·(refine qc fun Y Yh=>?_;simp[go_sem];apply Yh;clear Yh Y;apply Xi)
      (refine qg fun T F hT hF=>?_;simp[go_sem];refine BR.intro (fun h15=>hT ?_) (fun h15=>hF ?_);all_goals clear hT hF T F;try simp at h15) 
      ·refine qh ?_
       refine tl8 _ ?_
       (refine ql ?_ ?_ <;> simp[go_sem, h15, opsV])
      ·(refine qc fun Y Yh=>?_;simp[go_sem];apply Yh;clear Yh Y;apply Xi)
       (refine qg fun T F hT hF=>?_;simp[go_sem];refine BR.intro (fun h16=>hT ?_) (fun h16=>hF ?_);all_goals clear hT hF T F;try simp at h16) 
       ·refine qh ?_
        refine tl8 _ ?_
        (refine ql ?_ ?_ <;> simp[go_sem, h16, opsV])
       ·(refine qc fun Y Yh=>?_;simp[go_sem];apply Yh;clear Yh Y;apply Xi)
        (refine qg fun T F hT hF=>?_;simp[go_sem];refine BR.intro (fun h17=>hT ?_) (fun h17=>hF ?_);all_goals clear hT hF T F;try simp at h17) 
        ·refine qh ?_
         refine tl8 _ ?_
         (refine ql ?_ ?_ <;> simp[go_sem, h17, opsV])
        ·(refine qB fun Y Yh=>?_;simp[go_sem];apply Yh;clear Yh Y;apply Xi)
         refine tl8 _ ?_
         (refine ql ?_ ?_ <;> simp[go_sem, h12, h13, h14, h15, h16, h17, opsV])
         rw [Bool.eq_iff_iff]; simp
  ·refine qp ?_
   simp only [go_sem]
   refine hK3 _ ?_; clear hK3
   have hie : i = ps.length := by omega
   subst hie
   rw [List.take_length] at hs
   (refine qc fun Y Yh=>?_;simp[go_sem];apply Yh;clear Yh Y;apply Xi)
   (refine qi ?_;simp[go_sem, hs])
   split
   ·rename_i hq
    simp; omega
   ·rename_i hq
    simp; omega
theorem ZZ (l : List Seg) (c : Cnd) (hc : COk c) (hl : l.length ≤ 1000) (wl : ∀ x ∈ l, wz x) : PCall Tryz.prog 286 [dGs l, dRC c] fun r => r = dB (metV l c) := by 
 refine qw Tryz.func286 rfl rfl Tryz.ntmps286 (rs := [.tmp 4]) (tys := [4]) rfl rfl (by simp) ?_
 have hcl := hc.2.1.1
 have R1 := zO (textV c.2) (by have := hc.2.2; omega)
 have er := xq hc.2.1 hc.2.2
 rw [readR_of er, er] at R1
 simp only [Option.isSome_some] at R1
 have C1 := jP l c.2 (by omega) (by omega) wl (wz_ok hc.2.1)
 have B1 := Zn c.2 (by omega) (xm hc.2.1) (VOk.num hc.2.1)
 have hbl : (bumpV c.2).length ≤ 1000 := by rw [jC]; have := bumpN_le c.2; have := zF c.2; omega
 have C2 := jP l (bumpV c.2) (by omega) (by omega) wl (fun x hx q => absurd (Jm hc.2.1 hx).1 q)
 unfold metV
 generalize cmpV l c.2 = n at *
 generalize cmpV l (bumpV c.2) = k at *
 generalize bumpV c.2 = bu at *
 (refine qc fun Y Yh=>?_;simp[go_sem];intro _;apply Yh;clear Yh Y;apply Xi)
 (refine qc fun Y Yh=>?_;simp[go_sem])
 ((try refine Xj ?_);refine qm (.inl ⟨rfl,rfl⟩) (by simp[go_sem]) ?_;intro args ha;simp[go_sem] at ha;subst ha;refine ⟨_, R1, ?_⟩;rintro _ rfl;simp[go_sem];apply Yh;clear Yh Y;apply Xi)
 (refine qc fun Y Yh=>?_;simp[go_sem])
 ((try refine Xj ?_);refine qm (.inl ⟨rfl,rfl⟩) (by simp[go_sem]) ?_;intro args ha;simp[go_sem] at ha;subst ha;refine ⟨_, C1, ?_⟩;rintro _ rfl;simp[go_sem];apply Yh;clear Yh Y;apply Xi)
 refine qf fun K1 hK1 => ?_
 (refine qc fun Y Yh=>?_;simp[go_sem];apply Yh;clear Yh Y;apply Xi)
 refine qj ?_
 (refine qc fun Y Yh=>?_;simp[go_sem];apply Yh;clear Yh Y;apply Xi)
 (refine qg fun T F hT hF=>?_;simp[go_sem];refine BR.intro (fun h2=>hT ?_) (fun h2=>hF ?_);all_goals clear hT hF T F;try simp at h2) 
 ·(refine qc fun Y Yh=>?_;simp[go_sem];apply Yh;clear Yh Y;apply Xi)
  (refine qi ?_;simp[go_sem, h2])
 ·(refine qc fun Y Yh=>?_;simp[go_sem];apply Yh;clear Yh Y;apply Xi)
  (refine qg fun T F hT hF=>?_;simp[go_sem];refine BR.intro (fun h3=>hT ?_) (fun h3=>hF ?_);all_goals clear hT hF T F;try simp at h3) 
  ·(refine qc fun Y Yh=>?_;simp[go_sem];apply Yh;clear Yh Y;apply Xi)
   (refine qi ?_;simp[go_sem, h2, h3])
  ·(refine qc fun Y Yh=>?_;simp[go_sem];apply Yh;clear Yh Y;apply Xi)
   (refine qg fun T F hT hF=>?_;simp[go_sem];refine BR.intro (fun h4=>hT ?_) (fun h4=>hF ?_);all_goals clear hT hF T F;try simp at h4) 
   ·(refine qc fun Y Yh=>?_;simp[go_sem];apply Yh;clear Yh Y;apply Xi)
    (refine qi ?_;simp[go_sem, h2, h3, h4])
   ·(refine qc fun Y Yh=>?_;simp[go_sem];apply Yh;clear Yh Y;apply Xi)
    (refine qg fun T F hT hF=>?_;simp[go_sem];refine BR.intro (fun h5=>hT ?_) (fun h5=>hF ?_);all_goals clear hT hF T F;try simp at h5) 
    ·(refine qc fun Y Yh=>?_;simp[go_sem];apply Yh;clear Yh Y;apply Xi)
     (refine qi ?_;simp[go_sem, h2, h3, h4, h5])
    ·(refine qc fun Y Yh=>?_;simp[go_sem];apply Yh;clear Yh Y;apply Xi)
     (refine qg fun T F hT hF=>?_;simp[go_sem];refine BR.intro (fun h6=>hT ?_) (fun h6=>hF ?_);all_goals clear hT hF T F;try simp at h6) 
     ·(refine qc fun Y Yh=>?_;simp[go_sem];apply Yh;clear Yh Y;apply Xi)
      (refine qi ?_;simp[go_sem, h2, h3, h4, h5, h6])
     ·(refine qc fun Y Yh=>?_;simp[go_sem];apply Yh;clear Yh Y;apply Xi)
      (refine qg fun T F hT hF=>?_;simp[go_sem];refine BR.intro (fun h7=>hT ?_) (fun h7=>hF ?_);all_goals clear hT hF T F;try simp at h7) 
      ·(refine qc fun Y Yh=>?_;simp[go_sem];apply Yh;clear Yh Y;apply Xi)
       (refine qi ?_;simp[go_sem, h2, h3, h4, h5, h6, h7])
      ·refine qh ?_
       refine hK1 _ ?_; clear hK1
       simp only [h2, h3, h4, h5, h6, h7, if_false]
       by_cases h8 : 0 ≤ n
       ·(refine qc fun Y Yh=>?_;simp[go_sem, h8];((repeat' (refine qH ?_;simp[go_sem, h8]))))
        (refine ZQ (dGs bu) (.inl ⟨rfl,rfl⟩) (by simp[go_sem]) ?_ ?_;(intro hc args ha;simp[go_sem] at ha;subst ha;exact B1);simp[go_sem];refine qH ?_;simp[go_sem])
        (refine qX (dI k) (.inl ⟨rfl,rfl⟩) ?_ rfl ?_;(intro hc args ha;simp[go_sem] at ha;subst ha;exact C2);simp[go_sem];refine qH ?_;simp[go_sem];apply Yh;clear Yh Y;apply Xi)
        (refine qi ?_;simp[go_sem, h8])
       ·(refine qc fun Y Yh=>?_;simp[go_sem, h8];((repeat' (first|(refine qG (by simp[go_sem, undef, h8]) (by simp[go_sem]) ?_;simp[go_sem, h8])|intro _|apply And.intro|(apply Yh;clear Yh Y)));all_goals first|apply Xi|omega|assumption|skip))
        (refine qi ?_;simp[go_sem, h8])
def anyPre (cs : List Cnd) (i : Nat) : Bool := (cs.take i).any fun c => preV c.2
theorem anyPre_zero (cs : List Cnd) : anyPre cs 0 = false := rfl
theorem anyPre_all (cs : List Cnd) : anyPre cs cs.length = cs.any fun c => preV c.2 := by unfold anyPre; rw [List.take_length]
set_option maxHeartbeats 8000000 in
theorem J6 (l : List Seg) (cs : List Cnd) (hl : l.length ≤ 1000) (wl : ∀ x ∈ l, wz x) (hcs : cs.length ≤ 1000) (hc : ∀ c ∈ cs, COk c) : PCall Tryz.prog 252 [dGs l, dRCs cs] fun r => r = dB (meetsV l cs) := by 
 refine qw Tryz.func252 rfl rfl Tryz.ntmps252 (rs := [.tmp 4]) (tys := [4]) rfl rfl (by simp) ?_
 have W := jO l (by omega)
 have e := words_eq l
 have M := fun c h => ZZ l c (hc c h) hl wl
 have RW := fun c h => jO (c : Cnd).2 (by have := (hc c h).2.1.1; omega)
 have RE := fun (c : Cnd) => jY c.2
 have RR := fun c h => zO (textV (c : Cnd).2) (by have := (hc c h).2.2; omega)
 have ER := fun c h => xq (hc c h).2.1 (hc c h).2.2
 have EP := fun c h => readR_of (ER c h)
 have hbad : ∀ c ∈ cs, metV l c = false → meetsV l cs = false := by
  intro c h hm
  unfold meetsV
  have : cs.all (metV l) = false := by
   rw [List.all_eq_false]; exact ⟨c, h, by simp [hm]⟩
  rw [this]; rfl
 have hok : cs.all (metV l) = true → meetsV l cs = (!preV l || cs.any fun c => preV c.2) := by
  intro h; unfold meetsV; rw [h]; rfl
 have hall : ∀ i c, cs[i]? = some c → (cs.take i).all (metV l) = true → metV l c = true → (cs.take (i + 1)).all (metV l) = true := by
  intro i c h h1 h2
  rw [List.take_add_one, h, List.all_append, h1]; simpa using h2
 have hany : ∀ i c, cs[i]? = some c → anyPre cs (i + 1) = (anyPre cs i || preV c.2) := fun i c h => any_take h
 generalize meetsV l cs = res at *
 generalize preV l = pr at *
 generalize wordsV l = wl at *
 (refine qc fun Y Yh=>?_;simp[go_sem];apply Yh;clear Yh Y;apply Xi)
 (refine qc fun Y Yh=>?_;simp[go_sem])
 ((try refine Xj ?_);refine qm (.inl ⟨rfl,rfl⟩) (by simp[go_sem]) ?_;intro args ha;simp[go_sem] at ha;subst ha;refine ⟨_, W, ?_⟩;rintro _ rfl;simp[go_sem];apply Yh;clear Yh Y;apply Xi)
 refine qf fun K1 hK1 => ?_
 (refine qc fun Y Yh=>?_;simp[go_sem];apply Yh;clear Yh Y;apply Xi)
 refine qj ?_
 refine qx (σ := Nat) (fun i => ⟨[(0, dGs l), (1, dRCs cs), (5, dB (!pr || anyPre cs i)), (6, dI i)], []⟩) (fun i => i ≤ cs.length ∧ (cs.take i).all (metV l) = true) (fun i => cs.length - i) 0 ?_ ?_ ?_
 ·(refine ql ?_ ?_ <;> simp[go_sem, e, anyPre_zero])
 ·exact ⟨by omega, by simp⟩
 rintro i ⟨hi, ha⟩
 refine qf fun K2 hK2 => ?_
 (refine qc fun Y Yh=>?_;simp[go_sem];apply Yh;clear Yh Y;apply Xi)
 (refine qg fun T F hT hF=>?_;simp[go_sem];refine BR.intro (fun h3=>hT ?_) (fun h3=>hF ?_);all_goals clear hT hF T F;try simp at h3) 
 ·refine qh ?_
  refine hK2 _ ?_; clear hK2
  obtain ⟨c, hx⟩ : ∃ c, cs[i]? = some c := ⟨_, List.getElem?_eq_getElem (by omega)⟩
  have hm := List.mem_of_getElem? hx
  have M1 := M c hm
  have hb := hbad c hm
  have ha2 := hall i c hx ha
  have W2 := RW c hm
  have E2 := RE c
  have R2 := RR c hm
  rw [ER c hm, EP c hm] at R2
  simp only [Option.isSome_some] at R2
  have A2 := hany i c hx
  have hE3 : decide ((wordsV c.2 : Int) < (c.2.length : Int)) = preV c.2 := by rw [← E2]; congr 1; apply propext; omega
  generalize hmv : metV l c = mc at *
  generalize hq : anyPre cs i = q at *
  generalize hpc : preV c.2 = pc at *
  generalize wordsV c.2 = wc at *
  refine qf fun K4 hK4 => ?_
  refine qj ?_
  (refine qc fun Y Yh=>?_;simp[go_sem, hx])
  ((try refine Xj ?_);refine qm (.inl ⟨rfl,rfl⟩) (by simp[go_sem]) ?_;intro args ha;simp[go_sem] at ha;subst ha;refine ⟨_, R2, ?_⟩;rintro _ rfl;simp[go_sem];apply Yh;clear Yh Y;apply Xi)
  cases hm2 : (!pr || q) with
  | true =>
   have hm3 : (!pr || (q || pc)) = true := by rw [← Bool.or_assoc, hm2]; rfl
   (refine qc fun Y Yh=>?_;simp[go_sem, hm2];((repeat' (first|(refine qG (by simp[go_sem, undef, hm2]) (by simp[go_sem]) ?_;simp[go_sem, hm2])|intro _|apply And.intro|(apply Yh;clear Yh Y)));all_goals first|apply Xi|omega|assumption|skip))
   (refine qc fun Y Yh=>?_;simp[go_sem, hx])
   ((try refine Xj ?_);refine qm (.inl ⟨rfl,rfl⟩) (by simp[go_sem]) ?_;intro args ha;simp[go_sem] at ha;subst ha;refine ⟨_, M1, ?_⟩;rintro _ rfl;simp[go_sem];apply Yh;clear Yh Y;apply Xi)
   (refine qg fun T F hT hF=>?_;simp[go_sem];refine BR.intro (fun h5=>hT ?_) (fun h5=>hF ?_);all_goals clear hT hF T F;try simp at h5)
   ·(refine qc fun Y Yh=>?_;simp[go_sem];apply Yh;clear Yh Y;apply Xi)
    (refine qi ?_;simp[go_sem, hb h5])
   ·refine qh ?_
    refine hK4 _ ?_; clear hK4
    (refine qB fun Y Yh=>?_;simp[go_sem];((repeat' (first|apply And.intro|(apply Yh;clear Yh Y)));all_goals first|apply Xi|omega))
    refine ⟨i + 1, ?_, ⟨by omega, ha2 h5⟩, by omega⟩
    rw [A2, hm3]
    (refine ql ?_ ?_ <;> simp[go_sem])
  | false =>
   have hm3 : (!pr || (q || pc)) = pc := by rw [← Bool.or_assoc, hm2]; rfl
   (refine qc fun Y Yh=>?_;simp[go_sem, hm2];((repeat' (refine qH ?_;simp[go_sem, hm2]))))
   (refine qX (dI wc) (.inl ⟨rfl,rfl⟩) ?_ rfl ?_;(intro hc args ha;simp[go_sem] at ha;subst ha;exact W2);simp[go_sem];((repeat' (first|(refine qH ?_;simp[go_sem])|(apply Yh;clear Yh Y)));all_goals apply Xi))
   (refine qc fun Y Yh=>?_;simp[go_sem, hx])
   ((try refine Xj ?_);refine qm (.inl ⟨rfl,rfl⟩) (by simp[go_sem]) ?_;intro args ha;simp[go_sem] at ha;subst ha;refine ⟨_, M1, ?_⟩;rintro _ rfl;simp[go_sem];apply Yh;clear Yh Y;apply Xi)
   (refine qg fun T F hT hF=>?_;simp[go_sem];refine BR.intro (fun h5=>hT ?_) (fun h5=>hF ?_);all_goals clear hT hF T F;try simp at h5)
   ·(refine qc fun Y Yh=>?_;simp[go_sem];apply Yh;clear Yh Y;apply Xi)
    (refine qi ?_;simp[go_sem, hb h5])
   ·refine qh ?_
    refine hK4 _ ?_; clear hK4
    (refine qB fun Y Yh=>?_;simp[go_sem];((repeat' (first|apply And.intro|(apply Yh;clear Yh Y)));all_goals first|apply Xi|omega))
    refine ⟨i + 1, ?_, ⟨by omega, ha2 h5⟩, by omega⟩
    rw [A2, hm3]
    (refine ql ?_ ?_ <;> simp[go_sem, E2])
 ·refine qp ?_
  simp only [go_sem]
  refine hK1 _ ?_; clear hK1
  have : i = cs.length := by omega
  subst this
  rw [List.take_length] at ha
  rw [hok ha, ← anyPre_all]
  (refine qc fun Y Yh=>?_;simp[go_sem];apply Yh;clear Yh Y;apply Xi)
  (refine qi ?_;simp[go_sem])
theorem xh (v w : List UInt8) (hv : v.length ≤ 1000000) (hw : w.length ≤ 1000000) : PCall Tryz.prog 55 [dS v, dS w] fun r => r = .tup [dI (compareP v w), dI (codeP ((readV v).isSome && (readV w).isSome))] := by 
 refine qw Tryz.func55 rfl rfl Tryz.ntmps55 (rs := [.tmp 4, .tmp 5]) (tys := [3, 35]) rfl rfl (by simp) ?_
 have R1 := zO v (by omega)
 have R2 := zO w (by omega)
 have h1 := @read_ok v
 have h2 := @read_ok w
 unfold compareP codeP
 unfold readR at R1 R2
 generalize readP v = a at *
 generalize readP w = b at *
 have C := fun (p : (readV v).isSome = true) (q : (readV w).isSome = true) => jP a b (by have := (h1 p).2.1.1; omega) (by have := (h2 q).2.1.1; omega) (wz_ok (h1 p).2.1) (wz_ok (h2 q).2.1)
 generalize (readV v).isSome = x at *
 generalize (readV w).isSome = y at *
 (refine qc fun Y Yh=>?_;simp[go_sem];apply Yh;clear Yh Y;apply Xi)
 (refine qc fun Y Yh=>?_;simp[go_sem])
 ((try refine Xj ?_);refine qm (.inl ⟨rfl,rfl⟩) (by simp[go_sem]) ?_;intro args ha;simp[go_sem] at ha;subst ha;refine ⟨_, R1, ?_⟩;rintro _ rfl;simp[go_sem];apply Yh;clear Yh Y;apply Xi)
 (refine qc fun Y Yh=>?_;simp[go_sem])
 ((try refine Xj ?_);refine qm (.inl ⟨rfl,rfl⟩) (by simp[go_sem]) ?_;intro args ha;simp[go_sem] at ha;subst ha;refine ⟨_, R2, ?_⟩;rintro _ rfl;simp[go_sem];apply Yh;clear Yh Y;apply Xi)
 refine qf fun K1 hK1 => ?_
 cases x with
 | false =>
  (refine qc fun Y Yh=>?_;simp[go_sem];((repeat' (first|(refine qG (by simp[go_sem, undef]) (by simp[go_sem]) ?_;simp[go_sem])|intro _|apply And.intro|(apply Yh;clear Yh Y)));all_goals first|apply Xi|omega|assumption|skip))
  (refine qg fun T F hT hF=>?_;simp[go_sem];refine hT ?_;clear hT hF T F)
  (refine qc fun Y Yh=>?_;simp[go_sem];apply Yh;clear Yh Y;apply Xi)
  (refine qi ?_;simp[go_sem])
 | true =>
  cases y with
  | false =>
   (refine qc fun Y Yh=>?_;simp[go_sem];refine qH ?_;simp[go_sem];refine qH ?_;simp[go_sem];apply Yh;clear Yh Y;apply Xi)
   (refine qg fun T F hT hF=>?_;simp[go_sem];refine hT ?_;clear hT hF T F)
   (refine qc fun Y Yh=>?_;simp[go_sem];apply Yh;clear Yh Y;apply Xi)
   (refine qi ?_;simp[go_sem])
  | true =>
   simp only [if_true] at R1 R2
   (refine qc fun Y Yh=>?_;simp[go_sem];refine qH ?_;simp[go_sem];refine qH ?_;simp[go_sem];apply Yh;clear Yh Y;apply Xi)
   (refine qg fun T F hT hF=>?_;simp[go_sem];refine hF ?_;clear hT hF T F)
   refine qh ?_
   refine hK1 _ ?_; clear hK1
   (refine qc fun Y Yh=>?_;simp[go_sem])
   ((try refine Xj ?_);refine qm (.inl ⟨rfl,rfl⟩) (by simp[go_sem]) ?_;intro args ha;simp[go_sem] at ha;subst ha;refine ⟨_, (C rfl rfl), ?_⟩;rintro _ rfl;simp[go_sem];apply Yh;clear Yh Y;apply Xi)
   (refine qi ?_;simp[go_sem])
theorem QA (v w : List UInt8) (hv : v.length ≤ 1000000) (hw : w.length ≤ 1000000) : PCall Tryz.prog 216 [dS v, dS w] fun r => r = .tup [dB (meetsP v w), dI (codeP ((readV v).isSome && (condsV w).isSome))] := by 
 refine qw Tryz.func216 rfl rfl Tryz.ntmps216 (rs := [.tmp 4, .tmp 5]) (tys := [4, 35]) rfl rfl (by simp) ?_
 have R1 := zO v (by omega)
 have R2 := jw w (by omega)
 have h1 := @read_ok v
 have h2 := @conds_ok w
 unfold meetsP codeP
 unfold readR at R1
 generalize readP v = a at *
 generalize condsP w = b at *
 have C := fun (p : (readV v).isSome = true) (q : (condsV w).isSome = true) => J6 a b (by have := (h1 p).2.1.1; omega) (wz_ok (h1 p).2.1) (by have := (h2 q).2.2; omega) (h2 q).2.1
 generalize (readV v).isSome = x at *
 generalize (condsV w).isSome = y at *
 (refine qc fun Y Yh=>?_;simp[go_sem];apply Yh;clear Yh Y;apply Xi)
 (refine qc fun Y Yh=>?_;simp[go_sem])
 ((try refine Xj ?_);refine qm (.inl ⟨rfl,rfl⟩) (by simp[go_sem]) ?_;intro args ha;simp[go_sem] at ha;subst ha;refine ⟨_, R1, ?_⟩;rintro _ rfl;simp[go_sem];apply Yh;clear Yh Y;apply Xi)
 (refine qc fun Y Yh=>?_;simp[go_sem])
 ((try refine Xj ?_);refine qm (.inl ⟨rfl,rfl⟩) (by simp[go_sem]) ?_;intro args ha;simp[go_sem] at ha;subst ha;refine ⟨_, R2, ?_⟩;rintro _ rfl;simp[go_sem];apply Yh;clear Yh Y;apply Xi)
 refine qf fun K1 hK1 => ?_
 cases x with
 | false =>
  (refine qc fun Y Yh=>?_;simp[go_sem];((repeat' (first|(refine qG (by simp[go_sem, undef]) (by simp[go_sem]) ?_;simp[go_sem])|intro _|apply And.intro|(apply Yh;clear Yh Y)));all_goals first|apply Xi|omega|assumption|skip))
  (refine qg fun T F hT hF=>?_;simp[go_sem];refine hT ?_;clear hT hF T F)
  (refine qc fun Y Yh=>?_;simp[go_sem];apply Yh;clear Yh Y;apply Xi)
  (refine qi ?_;simp[go_sem])
 | true =>
  cases y with
  | false =>
   (refine qc fun Y Yh=>?_;simp[go_sem];refine qH ?_;simp[go_sem];refine qH ?_;simp[go_sem];apply Yh;clear Yh Y;apply Xi)
   (refine qg fun T F hT hF=>?_;simp[go_sem];refine hT ?_;clear hT hF T F)
   (refine qc fun Y Yh=>?_;simp[go_sem];apply Yh;clear Yh Y;apply Xi)
   (refine qi ?_;simp[go_sem])
  | true =>
   simp only [if_true] at R1
   (refine qc fun Y Yh=>?_;simp[go_sem];refine qH ?_;simp[go_sem];refine qH ?_;simp[go_sem];apply Yh;clear Yh Y;apply Xi)
   (refine qg fun T F hT hF=>?_;simp[go_sem];refine hF ?_;clear hT hF T F)
   refine qh ?_
   refine hK1 _ ?_; clear hK1
   (refine qc fun Y Yh=>?_;simp[go_sem])
   ((try refine Xj ?_);refine qm (.inl ⟨rfl,rfl⟩) (by simp[go_sem]) ?_;intro args ha;simp[go_sem] at ha;subst ha;refine ⟨_, (C rfl rfl), ?_⟩;rintro _ rfl;simp[go_sem];apply Yh;clear Yh Y;apply Xi)
   (refine qi ?_;simp[go_sem])
theorem vZ (r : List UInt8) (hl : r.length ≤ 1000000) : PCall Tryz.prog 165 [dS r] fun y => y = dI (codeP (condsV r).isSome) := by 
 refine qw Tryz.func165 rfl rfl Tryz.ntmps165 (rs := [.tmp 2]) (tys := [35]) rfl rfl (by simp) ?_
 have R1 := jL r (by omega)
 unfold codeP
 generalize (condsV r).isSome = x at *
 (refine qc fun Y Yh=>?_;simp[go_sem];apply Yh;clear Yh Y;apply Xi)
 refine qf fun K1 hK1 => ?_
 (refine qc fun Y Yh=>?_;simp[go_sem])
 ((try refine Xj ?_);refine qm (.inl ⟨rfl,rfl⟩) (by simp[go_sem]) ?_;intro args ha;simp[go_sem] at ha;subst ha;refine ⟨_, R1, ?_⟩;rintro _ rfl;simp[go_sem];apply Yh;clear Yh Y;apply Xi)
 (refine qc fun Y Yh=>?_;simp[go_sem];apply Yh;clear Yh Y;apply Xi)
 (refine qg fun T F hT hF=>?_;simp[go_sem];refine BR.intro (fun h2=>hT ?_) (fun h2=>hF ?_);all_goals clear hT hF T F;try simp at h2) 
 ·(refine qc fun Y Yh=>?_;simp[go_sem];apply Yh;clear Yh Y;apply Xi)
  (refine qi ?_;simp[go_sem, h2])
 ·refine qh ?_
  refine hK1 _ ?_; clear hK1
  (refine qc fun Y Yh=>?_;simp[go_sem];apply Yh;clear Yh Y;apply Xi)
  (refine qi ?_;simp[go_sem, h2])
theorem kG (r : List UInt8) (hl : r.length ≤ 1000000) : PCall Tryz.prog 146 [dS r] fun y => y = dI (codeP (condsV r).isSome) := by 
 refine qw Tryz.func146 rfl rfl Tryz.ntmps146 (rs := [.tmp 2]) (tys := [35]) rfl rfl (by simp) ?_
 have R1 := jw r (by omega)
 unfold codeP
 generalize (condsV r).isSome = x at *
 (refine qc fun Y Yh=>?_;simp[go_sem];apply Yh;clear Yh Y;apply Xi)
 refine qf fun K1 hK1 => ?_
 (refine qc fun Y Yh=>?_;simp[go_sem])
 ((try refine Xj ?_);refine qm (.inl ⟨rfl,rfl⟩) (by simp[go_sem]) ?_;intro args ha;simp[go_sem] at ha;subst ha;refine ⟨_, R1, ?_⟩;rintro _ rfl;simp[go_sem];apply Yh;clear Yh Y;apply Xi)
 (refine qc fun Y Yh=>?_;simp[go_sem];apply Yh;clear Yh Y;apply Xi)
 (refine qg fun T F hT hF=>?_;simp[go_sem];refine BR.intro (fun h2=>hT ?_) (fun h2=>hF ?_);all_goals clear hT hF T F;try simp at h2) 
 ·(refine qc fun Y Yh=>?_;simp[go_sem];apply Yh;clear Yh Y;apply Xi)
  (refine qi ?_;simp[go_sem, h2])
 ·refine qh ?_
  refine hK1 _ ?_; clear hK1
  (refine qc fun Y Yh=>?_;simp[go_sem];apply Yh;clear Yh Y;apply Xi)
  (refine qi ?_;simp[go_sem, h2])
end Go.Proofs.YteekfnhhlcmcgaaGreatDoor
namespace Go.Ver
open Go.Lib Go.Wh
end Go.Ver
namespace Go.Ver
/-! what the code of stable sorting does with lists -/
variable {α : Type} {lt : α → α → Bool}
theorem Jq {P Q R : List α} {x y : α} {p q : Nat} (hp : p = P.length) (hq : q = P.length + 1 + Q.length) :
  (P ++ x :: (Q ++ y :: R))[p]? = some x ∧ (P ++ x :: (Q ++ y :: R))[q]? = some y := by
 subst hp hq
 refine ⟨by simp, ?_⟩
 rw [List.getElem?_append_right (by omega)]
 rw [show P.length + 1 + Q.length - P.length = Q.length + 1 by omega, List.getElem?_cons_succ]
 simp
theorem JO {P Q R : List α} {x y : α} {p q : Nat} (hp : p = P.length) (hq : q = P.length + 1 + Q.length) :
  ((P ++ x :: (Q ++ y :: R)).set p y).set q x = P ++ y :: (Q ++ x :: R) := by
 subst hp hq
 rw [List.set_append_right _ _ (by omega), Nat.sub_self, List.set_cons_zero]
 rw [List.set_append_right _ _ (by omega), show P.length + 1 + Q.length - P.length = Q.length + 1 by omega, List.set_cons_succ]
 rw [List.set_append_right _ _ (by omega), Nat.sub_self, List.set_cons_zero]
theorem Qo {P Q R : List α} {x y : α} {p q : Nat} (hp : p = P.length) (hq : q = P.length + 1 + Q.length) :
  ((P ++ x :: (Q ++ y :: R)).set q x).set p y = P ++ y :: (Q ++ x :: R) := by
 rw [List.set_comm _ _ (by omega)]
 exact JO hp hq
theorem srt_app {A B : List α} (h : Srt lt (A ++ B)) : Srt lt A ∧ Srt lt B ∧ ∀ x ∈ A, ∀ y ∈ B, lt y x = false := by
 obtain ⟨h1, h2, h3⟩ := List.pairwise_append.1 h
 exact ⟨h1, h2, h3⟩
theorem srt_before (w : Weakly lt) {A : List α} {y z : α} (h : Srt lt (A ++ [y])) (hz : lt z y = false) : ∀ x ∈ A ++ [y], lt z x = false := by
 intro x hx
 rcases List.mem_append.1 hx with hx | hx
 ·exact w.neg x y z ((srt_app h).2.2 x hx y (by simp)) hz
 ·simp at hx; subst hx; exact hz
theorem sort_len : ∀ (l : List α), (sortL lt l).length = l.length
 | [] => rfl
 | x :: l => by
  show (mergeL lt [x] (sortL lt l)).length = _
  rw [jB, sort_len l]; simp; omega
where jB : ∀ {L R : List α}, (mergeL lt L R).length = L.length + R.length
 | [], R => by simp [zl]
 | l :: L, [] => by simp [zf]
 | l :: L, r :: R => by
  rw [qP]
  split
  ·simp only [List.length_cons]; rw [jB]; simp only [List.length_cons]; omega
  ·simp only [List.length_cons]; rw [jB]; simp only [List.length_cons]; omega
termination_by L R => L.length + R.length
theorem jB (L R : List α) : (mergeL lt L R).length = L.length + R.length := sort_len.jB
theorem sort_mem {l : List α} {x : α} : x ∈ sortL lt l ↔ x ∈ l := by
 induction l with
 | nil => simp [sortL]
 | cons y l ih =>
  show x ∈ mergeL lt [y] (sortL lt l) ↔ _
  rw [jA, ih]; simp
/-! blocks that are sorted each -/
variable {α : Type} {lt : α → α → Bool}
end Go.Ver
namespace Go.Ver
open Go.Lib Go.Wh
/-! lists of versions -/
def cV (x y : List UInt8) : Int := cmpV (readP x) (readP y)
/-! made versions in lists -/
end Go.Ver
namespace Go.Lk
open Go.Lib Go.Wh Go.Ver
/-! locks: names, needs, sums -/
abbrev Bs := List UInt8
abbrev Prs := Bs × Bs
def nmC (c : UInt8) : Bool := isL c || isD c || decide (c.toNat = 95) || decide (c.toNat = 45)
def nameV (s : Bs) : Bool := match s with
 | [] => false
 | c :: r => isL c && r.all nmC && decide (r.length < 20)
def nmAt (i : Nat) (c : UInt8) : Bool := isL c || (decide (i ≠ 0) && nmC c)
def nmTo (s : Bs) : Nat → Bool
 | 0 => true
 | n + 1 => nmTo s n && (match s[n]? with | some c => nmAt n c | none => true)
theorem nmTo_step {s : Bs} {n : Nat} {c : UInt8} (h : s[n]? = some c) : nmTo s (n + 1) = (nmTo s n && nmAt n c) := by
 simp only [nmTo, h]
theorem nmTo_all : ∀ (s : Bs) (c : UInt8) (n : Nat), nmTo (c :: s) (n + 1) = (isL c && (s.take n).all nmC)
 | s, c, 0 => by simp [nmTo, nmAt]
 | s, c, n + 1 => by
  rw [nmTo, nmTo_all s c n]
  simp only [List.getElem?_cons_succ]
  rw [List.take_add_one, List.all_append, Bool.and_assoc]
  congr 2
  cases h : s[n]? with
  | none => simp
  | some d => simp [nmAt, nmC]; cases isL d <;> simp
theorem Jt (s : Bs) : nameV s = (nmTo s s.length && (decide (s ≠ []) && decide (s.length ≤ 20))) := by
 cases s with
 | nil => simp [nameV, nmTo]
 | cons c r =>
  rw [List.length_cons, nmTo_all, List.take_length]
  simp [nameV]
  congr 1
  cases h : decide (r.length < 20) <;> simp at h <;> simp <;> omega
theorem nmTo_bad {s : Bs} {n : Nat} (h : nmTo s n = false) : ∀ m, n ≤ m → nmTo s m = false
 | 0, hm => by
  have : n = 0 := by omega
  subst this; exact h
 | m + 1, hm => by
  by_cases e : n = m + 1
  ·subst e; exact h
  ·rw [nmTo, nmTo_bad h m (by omega)]; rfl
/-! needs in a list: each named and asked rightly, ascending -/
def needAt (l : List Prs) (i : Nat) : Bool := match l[i]? with
 | some x => nameV x.1 && (condsV x.2).isSome && (decide (i = 0) || (match l[i - 1]? with | some y => Op.bytesLess y.1 x.1 | none => true))
 | none => true
def needTo (l : List Prs) : Nat → Bool
 | 0 => true
 | n + 1 => needTo l n && needAt l n
theorem needTo_bad {l : List Prs} {n : Nat} (h : needTo l n = false) : ∀ m, n ≤ m → needTo l m = false
 | 0, hm => by
  have : n = 0 := by omega
  subst this; exact h
 | m + 1, hm => by
  by_cases e : n = m + 1
  ·subst e; exact h
  ·rw [needTo, needTo_bad h m (by omega)]; rfl
def needsV (most : Nat) (l : List Prs) : Bool := needTo l l.length && decide (l.length ≤ most)
abbrev Lck := List Prs × List (List Prs) × List Prs
def pickAt (L : Lck) (i : Nat) : Bool := match L.1[i]? with
 | some x => nameV x.1 && (readV x.2).isSome && (decide (i = 0) || (match L.1[i - 1]? with | some y => Op.bytesLess y.1 x.1 | none => true)) && needsV 6 (L.2.1.getD i [])
 | none => true
def pickTo (L : Lck) : Nat → Bool
 | 0 => true
 | n + 1 => pickTo L n && pickAt L n
theorem pickTo_bad {L : Lck} {n : Nat} (h : pickTo L n = false) : ∀ m, n ≤ m → pickTo L m = false
 | 0, hm => by
  have : n = 0 := by omega
  subst this; exact h
 | m + 1, hm => by
  by_cases e : n = m + 1
  ·subst e; exact h
  ·rw [pickTo, pickTo_bad h m (by omega)]; rfl
def lockV (L : Lck) : Bool := decide (L.1.length ≤ 60) && decide (L.2.1.length = L.1.length) && needsV 8 L.2.2 && pickTo L L.1.length
/-! the sum -/
def sumV (s : Bs) : Nat → Nat
 | 0 => 0
 | n + 1 => (sumV s n + (s.getD n 0).toNat * ((n + 1) % 1000003)) % 1000003
theorem JQ (s : Bs) : ∀ n, sumV s n < 1000003
 | 0 => by simp [sumV]
 | n + 1 => by unfold sumV; exact Nat.mod_lt _ (by omega)
/-! a line: a name, and what stands in brackets behind it -/
def nmdV (s : Bs) : Option (Bs × Bs × Bool) :=
 let c := cut s [32, 40]
 if c.1 = [] ∨ c.1.all nmC = false then none
 else if c.2.2 = false then some (c.1, [], false)
 else
  let d := cut c.2.1 [41]
  if d.2.2 = true ∧ d.2.1 = [] ∧ d.1 ≠ [] then some (c.1, d.1, true) else none
structure PS where
 part : Nat
 picks : List Prs
 needs : List (List Prs)
 wish : List Prs
 sum : Bs
def pre4 : Bs := [32, 32, 32, 32]
def pre2 : Bs := [32, 32]
def preSum : Bs := [83, 85, 77, 32]
def entryV (p : PS) (s : Bs) : Option PS :=
 if pre4.isPrefixOf s = true then
  match nmdV (s.drop 4) with
  | some (n, i, _) => if p.part = 3 ∨ p.picks = [] then none
   else some { p with needs := p.needs.set (p.picks.length - 1) (p.needs.getD (p.picks.length - 1) [] ++ [(n, i)]) }
  | none => none
 else if pre2.isPrefixOf s = true then
  match nmdV (s.drop 2) with
  | some (n, i, b) => if p.part = 1 ∧ b = false then none
   else if p.part = 3 then some { p with wish := p.wish ++ [(n, i)] }
   else some { p with picks := p.picks ++ [(n, i)], needs := p.needs ++ [[]] }
  | none => none
 else none
def digV (d : Bs) : Bool := decide (d ≠ []) && d.all isD && (decide (d = [48]) || decide (d.head? ≠ some 48))
def gemsT : Bs := [71, 69, 77, 83]
def wishT : Bs := [87, 73, 83, 72]
def lineV (p : PS) (s : Bs) : Option PS :=
 match p.part with
 | 0 => if s = gemsT then some { p with part := 1 } else none
 | 1 => if s = [] then some { p with part := 2 } else entryV p s
 | 2 => if s = wishT then some { p with part := 3 } else none
 | 3 => if s = [] then some { p with part := 4 } else entryV p s
 | 4 => if preSum.isPrefixOf s = true ∧ digV (s.drop 4) = true then some { p with part := 5, sum := s.drop 4 } else none
 | _ => none
theorem cut_cases (s sep : Bs) : (∃ a r, cut s sep = (a, r, true) ∧ s = a ++ (sep ++ r)) ∨ (cut s sep = (s, [], false) ∧ ∀ j, j ≤ s.length → occAt s sep j = false) := by
 rcases index_spec s sep with ⟨h1, h2⟩ | ⟨i, h1, h2, h3, _⟩
 ·right
  refine ⟨?_, h2⟩
  unfold cut; rw [h1]; simp
 ·left
  refine ⟨s.take i, s.drop (i + sep.length), ?_, ?_⟩
  ·unfold cut; rw [h1, if_pos (by omega)]; simp
  ·unfold occAt at h3
   obtain ⟨t, ht⟩ := List.isPrefixOf_iff_prefix.1 h3
   have e : s.drop (i + sep.length) = t := by rw [← List.drop_drop, ← ht]; simp
   rw [e, ht, List.take_append_drop]
end Go.Lk
namespace Go.Proofs.YteekfnhhlcmcgaaGreatDoor
open Go.Eng Go.Wh Go.Ver Go.Lk
set_option maxRecDepth 20000
attribute [local irreducible] AG CallA CallT AWp PCall ACall AgC
@[go_sem] abbrev cB (b : UInt8) : List D := [.v (.int .u8 b.toNat)]
@[go_sem] abbrev cP (x : Prs) : List D := [dS x.1, dS x.2]
@[go_sem] abbrev dP (x : Prs) : D := .agg [dS x.1, dS x.2]
@[go_sem] abbrev dPs (l : List Prs) : D := .sl 2 (l.map cP)
@[go_sem] abbrev dNs (l : List (List Prs)) : D := .sl 1 (l.map fun n => [dPs n])
@[go_sem] abbrev dLk (L : Lck) : D := .agg [dPs L.1, dNs L.2.1, dPs L.2.2]
theorem ba_drop (s : List UInt8) (n : Nat) : ({ data := s.toArray } : ByteArray).extract n s.length = { data := (s.drop n).toArray } := by
 apply ByteArray.ext
 simp
 rw [List.take_of_length_le (by simp)]
theorem hasPre1 (s p : List UInt8) (hs : s.length ≤ 9223372036854775807) (hp : p.length ≤ 9223372036854775807) : PCall Tryz.prog 240 [dS s, dS p] fun r => r = dB (p.isPrefixOf s) := by 
 refine qw Tryz.func240 rfl rfl Tryz.ntmps240 (rs := [.tmp 4]) (tys := [4]) rfl rfl (by simp) ?_
 have h1 : p.length ≤ s.length → (s.take p.length = p ↔ p.isPrefixOf s = true) := fun h => by
  rw [List.isPrefixOf_iff_prefix, List.prefix_iff_eq_take]; exact eq_comm
 have h2 : ¬ p.length ≤ s.length → p.isPrefixOf s = false := fun h => by
  rw [Bool.eq_false_iff]; intro q
  exact h (List.isPrefixOf_iff_prefix.1 q).length_le
 generalize p.isPrefixOf s = b at *
 (refine qc fun Y Yh=>?_;simp[go_sem];apply Yh;clear Yh Y;apply Xi)
 by_cases h : p.length ≤ s.length
 ·have h' : (p.length : Int) ≤ s.length := by omega
  have h1 := h1 h
  (refine qc fun Y Yh=>?_;simp[go_sem, h'];((repeat' (first|(refine qH ?_;simp[go_sem, h'])|(apply Yh;clear Yh Y)));all_goals apply Xi))
  (refine qi ?_;simp[go_sem])
  rw [Bool.eq_iff_iff, ← h1]
  simp
 ·have h' : ¬ (p.length : Int) ≤ s.length := by omega
  (refine qc fun Y Yh=>?_;simp[go_sem, h'];((repeat' (first|(refine qG (by simp[go_sem, undef, h']) (by simp[go_sem]) ?_;simp[go_sem, h'])|intro _|apply And.intro|(apply Yh;clear Yh Y)));all_goals first|apply Xi|omega|assumption|skip))
  (refine qi ?_;simp[go_sem, h2 h])
theorem cutPre1 (s p : List UInt8) (hs : s.length ≤ 9223372036854775807) (hp : p.length ≤ 9223372036854775807) : PCall Tryz.prog 197 [dS s, dS p] fun r => r = .tup [dS (if p.isPrefixOf s = true then s.drop p.length else s), dB (p.isPrefixOf s)] := by 
 refine qw Tryz.func197 rfl rfl Tryz.ntmps197 (rs := [.tmp 4, .tmp 5]) (tys := [9, 4]) rfl rfl (by simp) ?_
 have H := hasPre1 s p hs hp
 have hle : p.isPrefixOf s = true → p.length ≤ s.length := fun q => (List.isPrefixOf_iff_prefix.1 q).length_le
 generalize p.isPrefixOf s = b at *
 (refine qc fun Y Yh=>?_;simp[go_sem];apply Yh;clear Yh Y;apply Xi)
 refine qf fun K1 hK1 => ?_
 (refine qc fun Y Yh=>?_;simp[go_sem])
 ((try refine Xj ?_);refine qm (.inl ⟨rfl,rfl⟩) (by simp[go_sem]) ?_;intro args ha;simp[go_sem] at ha;subst ha;refine ⟨_, H, ?_⟩;rintro _ rfl;simp[go_sem];apply Yh;clear Yh Y;apply Xi)
 (refine qg fun T F hT hF=>?_;simp[go_sem];refine BR.intro (fun h2=>hT ?_) (fun h2=>hF ?_);all_goals clear hT hF T F;try simp at h2)
 ·(refine qc fun Y Yh=>?_;simp[go_sem];apply Yh;clear Yh Y;apply Xi)
  (refine qi ?_;simp[go_sem, h2])
 ·have := hle h2
  refine qh ?_
  refine hK1 _ ?_; clear hK1
  (refine qc fun Y Yh=>?_;simp[go_sem];((repeat' (first|apply And.intro|(apply Yh;clear Yh Y)));all_goals first|apply Xi|omega))
  (refine qi ?_;simp[go_sem, h2, ba_drop])
theorem Z8 (s p : List UInt8) (hs : s.length ≤ 9223372036854775807) (hp : p.length ≤ 9223372036854775807) : PCall Tryz.prog 158 [dS s, dS p] fun r => r = .tup [dS (if p.isPrefixOf s = true then s.drop p.length else s), dB (p.isPrefixOf s)] := by
 refine qw Tryz.func158 rfl rfl Tryz.ntmps158 (rs := [.tmp 4, .tmp 5]) (tys := [9, 4]) rfl rfl (by simp) ?_
 (refine qc fun Y Yh=>?_;simp[go_sem];apply Yh;clear Yh Y;apply Xi)
 (refine qc fun Y Yh=>?_;simp[go_sem])
 ((try refine Xj ?_);refine qm (.inl ⟨rfl,rfl⟩) (by simp[go_sem]) ?_;intro args ha;simp[go_sem] at ha;subst ha;refine ⟨_, (cutPre1 s p hs hp), ?_⟩;rintro _ rfl;simp[go_sem];apply Yh;clear Yh Y;apply Xi)
 (refine qi ?_;simp[go_sem])
theorem ji (s : List UInt8) (hl : s.length ≤ 1000000000) : PCall Tryz.prog 123 [dS s] fun r => r = dB (nameV s) := by 
 refine qw Tryz.func123 rfl rfl Tryz.ntmps123 (rs := [.tmp 2]) (tys := [4]) rfl rfl (by simp) ?_
 have hst := fun n c => @nmTo_step s n c
 have hbad := fun n (h : nmTo s n = false) (hn : n ≤ s.length) => nmTo_bad h s.length hn
 have hz : nmTo s 0 = true := rfl
 rw [Jt]
 (refine qc fun Y Yh=>?_;simp[go_sem];apply Yh;clear Yh Y;apply Xi)
 refine qf fun K1 hK1 => ?_
 (refine qc fun Y Yh=>?_;simp[go_sem];((repeat' (first|apply And.intro|(apply Yh;clear Yh Y)));all_goals first|apply Xi|omega))
 refine qj ?_
 refine qx (σ := Nat) (fun i => ⟨[(0, dS s), (7, .sl 1 (s.map cB)), (8, dI s.length), (9, dI i)], []⟩) (fun i => i ≤ s.length ∧ nmTo s i = true) (fun i => s.length - i) 0 ?_ ?_ ?_
 ·(refine ql ?_ ?_ <;> simp[go_sem])
 ·exact ⟨by omega, hz⟩
 rintro i ⟨hi, hn⟩
 (refine qc fun Y Yh=>?_;simp[go_sem];apply Yh;clear Yh Y;apply Xi)
 refine qf fun K2 hK2 => ?_
 (refine qg fun T F hT hF=>?_;simp[go_sem];refine BR.intro (fun h3=>hT ?_) (fun h3=>hF ?_);all_goals clear hT hF T F;try simp at h3)
 ·refine qh ?_
  refine hK2 _ ?_; clear hK2
  obtain ⟨c, hx⟩ : ∃ c, s[i]? = some c := ⟨_, List.getElem?_eq_getElem (by omega)⟩
  have hst1 := hst i c hx
  rw [hn] at hst1
  refine qf fun K4 hK4 => ?_
  refine qj ?_
  (refine qc fun Y Yh=>?_;simp[go_sem, hx];apply Yh;clear Yh Y;apply Xi)
  (refine qc fun Y Yh=>?_;simp[go_sem];refine qH ?_;simp[go_sem];refine qH ?_;simp[go_sem];apply Yh;clear Yh Y;apply Xi)
  (refine qc fun Y Yh=>?_;simp[go_sem];((repeat' (first|(refine qH ?_;simp[go_sem])|(apply Yh;clear Yh Y)));all_goals apply Xi))
  (refine qg fun T F hT hF=>?_;simp[go_sem];refine BR.intro (fun h5=>hT ?_) (fun h5=>hF ?_);all_goals clear hT hF T F;try simp at h5)
  ·have hna : nmAt i c = false := by
    simp [nmAt, nmC, isL, isD]
    omega
   rw [hna] at hst1
   (refine qc fun Y Yh=>?_;simp[go_sem];apply Yh;clear Yh Y;apply Xi)
   (refine qi ?_;simp[go_sem, hbad (i + 1) hst1 (by omega)])
  ·have hna : nmAt i c = true := by
    simp [nmAt, nmC, isL, isD]
    omega
   rw [hna] at hst1
   refine qh ?_
   refine hK4 _ ?_; clear hK4
   (refine qB fun Y Yh=>?_;simp[go_sem];((repeat' (first|apply And.intro|(apply Yh;clear Yh Y)));all_goals first|apply Xi|omega))
   refine ⟨i + 1, ?_, ⟨by omega, hst1⟩, by omega⟩
   (refine ql ?_ ?_ <;> simp[go_sem])
 ·refine qp ?_
  simp only [go_sem]
  refine hK1 _ ?_; clear hK1
  have : i = s.length := by omega
  subst this
  rw [hn]
  by_cases h : s = []
  ·(refine qc fun Y Yh=>?_;simp[go_sem, h];((repeat' (first|(refine qG (by simp[go_sem, undef, h]) (by simp[go_sem]) ?_;simp[go_sem, h])|intro _|apply And.intro|(apply Yh;clear Yh Y)));all_goals first|apply Xi|omega|assumption|skip))
   (refine qi ?_;simp[go_sem, h])
  ·(refine qc fun Y Yh=>?_;simp[go_sem, h];((repeat' (first|(refine qH ?_;simp[go_sem, h])|(apply Yh;clear Yh Y)));all_goals apply Xi))
   (refine qi ?_;simp[go_sem])
   rw [Bool.eq_iff_iff]
   simp [h]
   omega
theorem Qp (s : List UInt8) (hl : s.length ≤ 1000000000) : PCall Tryz.prog 116 [dS s] fun r => r = dI (sumV s s.length) := by 
 refine qw Tryz.func116 rfl rfl Tryz.ntmps116 (rs := [.tmp 2]) (tys := [3]) rfl rfl (by simp) ?_
 have hlt := JQ s
 have hst : ∀ (n : Nat) (c : UInt8), s[n]? = some c → ((sumV s (n + 1) : Nat) : Int) = ((sumV s n : Int) + (c.toNat : Int) * (((n : Int) + 1).tmod 1000003)).tmod 1000003 := fun n c h => by
  show (((sumV s n + (s.getD n 0).toNat * ((n + 1) % 1000003)) % 1000003 : Nat) : Int) = _
  have e : s.getD n 0 = c := by simp [List.getD, h]
  have h1 : ((n : Int) + 1).tmod 1000003 = ((n : Int) + 1) % 1000003 := Int.tmod_eq_emod_of_nonneg (by omega)
  rw [e, h1, Int.tmod_eq_emod_of_nonneg (by
   have : 0 ≤ ((n : Int) + 1) % 1000003 := Int.emod_nonneg _ (by omega)
   have := Int.mul_nonneg (Int.natCast_nonneg c.toNat) this
   omega)]
  have e2 : ((c.toNat * ((n + 1) % 1000003) : Nat) : Int) = (c.toNat : Int) * (((n : Int) + 1) % 1000003) := by
   rw [Int.natCast_mul]
   have : (((n + 1) % 1000003 : Nat) : Int) = ((n : Int) + 1) % 1000003 := by omega
   rw [this]
  rw [← e2]
  omega
 have z : sumV s 0 = 0 := rfl
 generalize sumV s = sm at *
 (refine qc fun Y Yh=>?_;simp[go_sem];apply Yh;clear Yh Y;apply Xi)
 (refine qc fun Y Yh=>?_;simp[go_sem];apply Yh;clear Yh Y;apply Xi)
 refine qf fun K1 hK1 => ?_
 (refine qc fun Y Yh=>?_;simp[go_sem];((repeat' (first|apply And.intro|(apply Yh;clear Yh Y)));all_goals first|apply Xi|omega))
 refine qj ?_
 refine qx (σ := Nat) (fun i => ⟨[(3, dI (sm i)), (7, .sl 1 (s.map cB)), (8, dI s.length), (9, dI i)], []⟩) (fun i => i ≤ s.length) (fun i => s.length - i) 0 ?_ ?_ ?_
 ·(refine ql ?_ ?_ <;> simp[go_sem, z])
 ·omega
 intro i hi
 (refine qc fun Y Yh=>?_;simp[go_sem];apply Yh;clear Yh Y;apply Xi)
 refine qf fun K2 hK2 => ?_
 (refine qg fun T F hT hF=>?_;simp[go_sem];refine BR.intro (fun h3=>hT ?_) (fun h3=>hF ?_);all_goals clear hT hF T F;try simp at h3)
 ·refine qh ?_
  refine hK2 _ ?_; clear hK2
  obtain ⟨c, hx⟩ : ∃ c, s[i]? = some c := ⟨_, List.getElem?_eq_getElem (by omega)⟩
  have hst1 := hst i c hx
  have hlt1 := hlt i
  have hc : c.toNat < 256 := c.toNat_lt
  have hm1 : 0 ≤ ((i : Int) + 1).tmod 1000003 ∧ ((i : Int) + 1).tmod 1000003 < 1000003 := by
   rw [Int.tmod_eq_emod_of_nonneg (by omega)]
   exact ⟨Int.emod_nonneg _ (by omega), Int.emod_lt_of_pos _ (by omega)⟩
  have hm2 : (c.toNat : Int) * (((i : Int) + 1).tmod 1000003) ≤ 255 * 1000003 := Int.mul_le_mul (by omega) (by omega) (by omega) (by omega)
  have hm3 : 0 ≤ (c.toNat : Int) * (((i : Int) + 1).tmod 1000003) := Int.mul_nonneg (by omega) (by omega)
  generalize sm i = n at *
  refine qf fun K4 hK4 => ?_
  refine qj ?_
  (refine qc fun Y Yh=>?_;simp[go_sem, hx];apply Yh;clear Yh Y;apply Xi)
  (refine qB fun Y Yh=>?_;simp[go_sem];((repeat' (first|apply And.intro|(apply Yh;clear Yh Y)));all_goals first|apply Xi|omega))
  refine hK4 _ ?_; clear hK4
  (refine qB fun Y Yh=>?_;simp[go_sem];((repeat' (first|apply And.intro|(apply Yh;clear Yh Y)));all_goals first|apply Xi|omega))
  refine ⟨i + 1, ?_, by omega, by omega⟩
  rw [hst1]
  (refine ql ?_ ?_ <;> simp[go_sem])
 ·refine qp ?_
  simp only [go_sem]
  refine hK1 _ ?_; clear hK1
  have : i = s.length := by omega
  subst this
  (refine qc fun Y Yh=>?_;simp[go_sem];apply Yh;clear Yh Y;apply Xi)
  (refine qi ?_;simp[go_sem])
end Go.Proofs.YteekfnhhlcmcgaaGreatDoor
namespace Go.Proofs.YteekfnhhlcmcgaaGreatDoor
open Go.Eng Go.Wh Go.Ver Go.RowKit Go.Lk
set_option maxRecDepth 20000
attribute [local irreducible] AG CallA CallT AWp PCall ACall AgC
def Tryz.laysGw17_ren : Go.Shelf.Ren := ⟨fun | 15 => 198 | 17 => 159 | 20 => 241 | n => n, fun | 23 => 237 | n => n, fun | n => n⟩
theorem Tryz.laysGw17 : Go.Proofs.LaysGw.n17 Tryz.prog Tryz.laysGw17_ren := {
 mixed := by kernel_rfl
 f15 := Tryz.func198.trans (congrArg some (by kernel_rfl))
 f17 := Tryz.func159.trans (congrArg some (by kernel_rfl))
 f20 := Tryz.func241.trans (congrArg some (by kernel_rfl))
 t0 := Tryz.underlying0
 a0 := Tryz.isAgg0
 z0 := Tryz.sizeOf0
 v0 := Tryz.zeroValue0
 i0 := by kernel_rfl
 t3 := Tryz.underlying3
 a3 := Tryz.isAgg3
 z3 := Tryz.sizeOf3
 v3 := Tryz.zeroValue3
 i3 := by kernel_rfl
 t4 := Tryz.underlying4
 a4 := Tryz.isAgg4
 z4 := Tryz.sizeOf4
 v4 := Tryz.zeroValue4
 i4 := by kernel_rfl
 t9 := Tryz.underlying9
 a9 := Tryz.isAgg9
 z9 := Tryz.sizeOf9
 v9 := Tryz.zeroValue9
 i9 := by kernel_rfl
 t21 := Tryz.underlying21
 a21 := Tryz.isAgg21
 z21 := Tryz.sizeOf21
 v21 := Tryz.zeroValue21
 i21 := by kernel_rfl
 t23 := Tryz.underlying237
 a23 := Tryz.isAgg237
 z23 := Tryz.sizeOf237
 v23 := Tryz.zeroValue237
 i23 := by kernel_rfl }
theorem idxF_neg (p : Nat → Bool) (hp : ∀ r, 128 ≤ r → p r = true) (s : ByteArray) : ∀ (f pos : Nat), s.size ≤ pos + f → (decide (0 ≤ Lib.idxFuncFrom p true s f pos) = (s.data.toList.drop pos).any fun c => p c.toNat)
 | 0, pos, h => by
  have hl : s.data.toList.length = s.size := Array.length_toList
  rw [List.drop_eq_nil_of_le (by omega)]
  simp [Lib.idxFuncFrom]
 | f + 1, pos, h => by
  have hl : s.data.toList.length = s.size := Array.length_toList
  unfold Lib.idxFuncFrom
  by_cases hs : pos < s.size
  ·rw [if_pos hs]
   have hs' : pos < s.data.toList.length := by omega
   rw [List.drop_eq_getElem_cons hs', List.any_cons]
   have e : s.data.toList[pos] = s[pos]'hs := by first | rfl | (rw [Array.getElem_toList]; rfl)
   rw [e]
   by_cases h1 : (s[pos]'hs).toNat < 128
   ·rw [decode_ascii s pos hs h1]
    cases hq : p (s[pos]'hs).toNat with
    | true => simp
    | false =>
     simp only [Bool.false_eq_true, if_false, Bool.false_or]
     exact idxF_neg p hp s f (pos + 1) (by omega)
   ·have h2 := (decode_high s pos hs (by omega)).1
    rw [hp _ h2, hp _ (show 128 ≤ (s[pos]'hs).toNat by omega), if_pos rfl, Bool.true_or, decide_eq_true_eq]
    omega
  ·rw [if_neg hs, List.drop_eq_nil_of_le (by omega)]
   simp
theorem vK (s : List UInt8) (g : Nat) (eg : ∀ args w, (callFunc g args).run Tryz.prog w = .ok (.enter g args) w) (p : Nat → Bool) (hp : ∀ r, 128 ≤ r → p r = true) (hg : ∀ w, PredAt Tryz.prog g #[] encR p w) : PCall Tryz.prog 159 [dS s, .v (.func (.func g) #[] #[])] fun r => r = dB (s.any fun c => p c.toNat) := by
 refine zt ⟨_, Tryz.func159, rfl, rfl⟩ fun C w us hc' hg' hr => ?_
 obtain rfl := repL_v (us := [.string ⟨s.toArray⟩, .func (.func g) #[] #[]]) hr
 refine (Any.strings_ContainsFunc Tryz.laysGw17 g #[] eg p ⟨s.toArray⟩ w (hg w)).mono ?_
 rintro e w' ⟨rfl, hb⟩
 have h := idxF_neg p hp ⟨s.toArray⟩ (ByteArray.size ⟨s.toArray⟩) 0 (by omega)
 refine ⟨_, _, rfl, ?_, .v _, hb⟩
 unfold Lib.idxFunc
 rw [h, List.drop_zero]
theorem digit_at (w : World) : PredAt Tryz.prog 160 #[] encR (fun r => decide (r < 48) || decide (57 < r)) w := fun W r _ => by
 unfold FnGives
 by_cases h1 : r < 48 <;> by_cases h2 : 57 < r
 all_goals
  have z1 : (r : Int) < 48 ↔ r < 48 := by omega
  have z2 : (57 : Int) < (r : Int) ↔ 57 < r := by omega
  go_enter Tryz.func160, Tryz.ntmps160
  go_wp2
  all_goals first | (exfalso; omega) | (go_ret; exact ⟨by simp [h1, h2], 0, rfl⟩)
theorem wF (s : List UInt8) : PCall Tryz.prog 159 [dS s, .v (.func (.func 160) #[] #[])] fun r => r = dB (!s.all isD) := by
 have h := vK s 160 (enters_of Tryz.func160 (by kernel_rfl) rfl) (fun r => decide (r < 48) || decide (57 < r)) (fun r hr => by
  simp only [Bool.or_eq_true, decide_eq_true_eq]; omega) digit_at
 rw [show (!s.all isD) = s.any fun c => decide (c.toNat < 48) || decide (57 < c.toNat) by
  rw [List.not_all_eq_any_not]
  congr 1
  funext c
  rw [Bool.eq_iff_iff]
  simp only [isD, Bool.not_eq_true', Bool.and_eq_false_iff, decide_eq_false_iff_not, Bool.or_eq_true, decide_eq_true_eq]
  omega]
 exact h
theorem kY (s p : List UInt8) (hl : s.length < 4294967281) : PCall Tryz.prog 164 [dS s, dS p] fun r => r = dB (Lib.contains s p) := by
 refine zt ⟨_, Tryz.func164, rfl, rfl⟩ fun C w us hc hg hr => ?_
 have hg : glOk w := hg
 obtain rfl := repL_v (us := [.string ⟨s.toArray⟩, .string ⟨p.toArray⟩]) hr
 obtain ⟨m, hm⟩ := hg.2
 refine (Tryz.strings_Contains ⟨s.toArray⟩ ⟨p.toArray⟩ m w (by simpa [ByteArray.size] using hl) hm).mono ?_
 rintro e w' ⟨rfl, rfl⟩
 exact ⟨_, _, rfl, rfl, .v _, Below.refl _ _⟩
def nmL : List UInt8 := [97, 98, 99, 100, 101, 102, 103, 104, 105, 106, 107, 108, 109, 110, 111, 112, 113, 114, 115, 116, 117, 118, 119, 120, 121, 122, 48, 49, 50, 51, 52, 53, 54, 55, 56, 57, 95, 45]
theorem nmL_nm (c : UInt8) : nmL.contains c = nmC c := by
 have h := UInt8.toNat_lt c
 unfold nmC isL isD nmL
 refine Bool.eq_iff_iff.2 ?_
 simp only [List.contains_iff_mem, List.mem_cons, List.mem_nil_iff, or_false, Bool.and_eq_true, Bool.or_eq_true, decide_eq_true_eq, ← UInt8.toNat_inj]
 simp
 omega
theorem trim_nm (l : List UInt8) : (Lib.trimS l nmL = []) ↔ l.all nmC = true := by
 rw [trimS_nil]
 simp only [nmL_nm]
theorem contains_L (c : UInt8) : Lib.contains abcL [c] = isL c := by
 unfold Lib.contains
 rw [Lib.index_one, ← abcL_isL, Lib.contains_iff_indexByte]
theorem zT (s : List UInt8) (hl : s.length ≤ 1000000000) : PCall Tryz.prog 121 [dS s] fun r => r = dB (nameV s) := by 
 refine qw Tryz.func121 rfl rfl Tryz.ntmps121 (rs := [.tmp 2]) (tys := [4]) rfl rfl (by simp) ?_
 have T1 := jF s nmL (by omega) (by decide) (by decide)
 have ht := trim_nm s
 cases s with
 | nil =>
  (refine qc fun Y Yh=>?_;simp[go_sem];apply Yh;clear Yh Y;apply Xi)
  (refine qc fun Y Yh=>?_;simp[go_sem];((repeat' (first|(refine qG (by simp[go_sem, undef]) (by simp[go_sem]) ?_;simp[go_sem])|intro _|apply And.intro|(apply Yh;clear Yh Y)));all_goals first|apply Xi|omega|assumption|skip))
  (refine qi ?_;simp[go_sem, nameV])
 | cons c r =>
  have C1 := kY abcL [c] (by decide)
  rw [contains_L] at C1
  have e1 : ({ data := (c :: r).toArray } : ByteArray).extract 0 1 = { data := [c].toArray } := by apply ByteArray.ext; simp
  have h1 : (1 : Int) ≤ (r.length : Int) + 1 := by omega
  by_cases h2 : r.length < 20
  ·have h2' : ((r.length : Int) + 1 ≤ 20) := by omega
   generalize Lib.trimS (c :: r) nmL = a at *
   by_cases h3 : a = []
   ·subst h3
    have h4 := ht.1 rfl
    (refine qc fun Y Yh=>?_;simp[go_sem];apply Yh;clear Yh Y;apply Xi)
    (refine qc fun Y Yh=>?_;simp[go_sem, h1, h2'];((repeat' (refine qH ?_;simp[go_sem, h1, h2']))))
    (refine qX (dS []) (.inl ⟨rfl,rfl⟩) ?_ rfl ?_;(intro hc args ha;simp[go_sem] at ha;subst ha;exact T1);simp[go_sem, h1, h2'];((repeat' (refine qH ?_;simp[go_sem, h1, h2']))))
    (refine qX (dB (isL c)) (.inl ⟨rfl,rfl⟩) ?_ rfl ?_;(intro hc args ha;simp[go_sem] at ha;subst ha;exact (by rw [e1]; exact C1));simp[go_sem, h1, h2'];apply Yh;clear Yh Y;apply Xi)
    (refine qi ?_;simp[go_sem])
    simp only [List.all_cons, Bool.and_eq_true] at h4
    simp [nameV, h4.2, h2]
   ·have h4 : ¬ ((c :: r).all nmC = true) := fun q => h3 (ht.2 q)
    have h5 : nameV (c :: r) = false := by
     rw [← Bool.not_eq_true]
     intro q
     simp only [nameV, Bool.and_eq_true] at q
     exact h4 (by rw [List.all_cons, q.1.2]; simp [nmC, q.1.1])
    (refine qc fun Y Yh=>?_;simp[go_sem];apply Yh;clear Yh Y;apply Xi)
    (refine qc fun Y Yh=>?_;simp[go_sem, h1, h2'];((repeat' (refine qH ?_;simp[go_sem, h1, h2']))))
    (refine qX (dS a) (.inl ⟨rfl,rfl⟩) ?_ rfl ?_;(intro hc args ha;simp[go_sem] at ha;subst ha;exact T1);simp[go_sem, h1, h2', h3];((repeat' (first|(refine qG ?_ ?_ ?_;(focus (simp[go_sem, undef, h1, h2', h3];done));(focus (simp[go_sem];done));simp[go_sem, h1, h2', h3])|(refine qH ?_;simp[go_sem, undef, h1, h2', h3])|(apply Yh;clear Yh Y)));all_goals apply Xi))
    (refine qi ?_;simp[go_sem, h5])
  ·have h2' : ¬ ((r.length : Int) + 1 ≤ 20) := by omega
   have h5 : nameV (c :: r) = false := by simp [nameV, h2]
   (refine qc fun Y Yh=>?_;simp[go_sem];apply Yh;clear Yh Y;apply Xi)
   (refine qc fun Y Yh=>?_;simp[go_sem, h1, h2'];((repeat' (first|(refine qG ?_ ?_ ?_;(focus (simp[go_sem, undef, h1, h2'];done));(focus (simp[go_sem];done));simp[go_sem, h1, h2'])|(refine qH ?_;simp[go_sem, undef, h1, h2'])|(apply Yh;clear Yh Y)));all_goals apply Xi))
   (refine qi ?_;simp[go_sem, h5])
theorem cut_len (s p : Bs) : (Lib.cut s p).1.length ≤ s.length ∧ (Lib.cut s p).2.1.length ≤ s.length := by
 rcases cut_cases s p with ⟨a, r, h, e⟩ | ⟨h, _⟩
 ·rw [h]
  have := congrArg List.length e
  simp only [List.length_append] at this
  simp only
  omega
 ·rw [h]; simp
theorem need_step (l : List Prs) (i : Nat) (x : Prs) (h : l[i]? = some x) : needTo l (i + 1) = (needTo l i && (nameV x.1 && (condsV x.2).isSome && (decide (i = 0) || (match l[i - 1]? with | some y => Op.bytesLess y.1 x.1 | none => true)))) := by
 rw [needTo]
 unfold needAt
 rw [h]
 all_goals rfl
set_option maxHeartbeats 4000000 in
theorem vz (l : List Prs) (m : Nat) (hl : l.length ≤ 1000000) (hb : ∀ x ∈ l, x.1.length ≤ 1000000 ∧ x.2.length ≤ 1000000) : PCall Tryz.prog 122 [dPs l, dI m] fun r => r = dB (needsV m l) := by 
 refine qw Tryz.func122 rfl rfl Tryz.ntmps122 (rs := [.tmp 4]) (tys := [4]) rfl rfl (by simp) ?_
 have hbad := fun n (h : needTo l n = false) (hn : n ≤ l.length) => needTo_bad h l.length hn
 have hst := need_step l
 have hz : needTo l 0 = true := rfl
 unfold needsV
 generalize needTo l = nt at *
 (refine qc fun Y Yh=>?_;simp[go_sem];apply Yh;clear Yh Y;apply Xi)
 refine qf fun K1 hK1 => ?_
 (refine qc fun Y Yh=>?_;simp[go_sem];apply Yh;clear Yh Y;apply Xi)
 refine qj ?_
 refine qx (σ := Nat) (fun i => ⟨[(0, dPs l), (1, dI m), (7, dPs l), (8, dI l.length), (9, dI i)], []⟩) (fun i => i ≤ l.length ∧ nt i = true) (fun i => l.length - i) 0 ?_ ?_ ?_
 ·(refine ql ?_ ?_ <;> simp[go_sem])
 ·exact ⟨by omega, hz⟩
 rintro i ⟨hi, hn⟩
 (refine qc fun Y Yh=>?_;simp[go_sem];apply Yh;clear Yh Y;apply Xi)
 refine qf fun K2 hK2 => ?_
 (refine qg fun T F hT hF=>?_;simp[go_sem];refine BR.intro (fun h3=>hT ?_) (fun h3=>hF ?_);all_goals clear hT hF T F;try simp at h3) 
 ·refine qh ?_
  refine hK2 _ ?_; clear hK2
  obtain ⟨x, hx⟩ : ∃ x, l[i]? = some x := ⟨_, List.getElem?_eq_getElem (by omega)⟩
  have hb1 := hb x (List.mem_of_getElem? hx)
  have N1 := ji x.1 (by omega)
  have C1 := vZ x.2 (by omega)
  have hst1 := hst i x hx
  rw [hn, Bool.true_and] at hst1
  have hbad1 := fun h => hbad (i + 1) h (by omega)
  generalize nameV x.1 = nb at *
  generalize (condsV x.2).isSome = cb at *
  refine qf fun K4 hK4 => ?_
  refine qj ?_
  (refine qc fun Y Yh=>?_;simp[go_sem, hx];intro _;apply Yh;clear Yh Y;apply Xi)
  cases nb with
  | false =>
   have hF := hbad1 (by rw [hst1]; simp)
   ((refine qE (.qs [0, 1] (.one 2 (.qs [3, 4] (.sk 5 (.sk 6 (.sk 7 (.sk 8 (.qs [9, 10] (.sk 11 (.sk 12 (.sk 13 (.sk 14 (.sk 15 (.sk 16 (.sk 17 (.sk 18 (.sk 20 (.sk 19 (.sk 21 (.sk 22 (.sk 23 (.qs [24] (.nil))))))))))))))))))))))) (by kernel_rfl) ?_ ?_ ?_ ?_);kernel_rfl;exact (by decide +kernel);kernel_rfl;intro Y Yh;((repeat' (first|(refine qo fun Y Yh=>?_;simp[go_sem])|(refine qC fun Y Yh=>?_;simp[go_sem])|(apply Yh;clear Yh Y)))))
   ((try refine Xj ?_);refine qm (.inl ⟨rfl,rfl⟩) (by simp[go_sem]) ?_;intro args ha;simp[go_sem] at ha;subst ha;refine ⟨_, N1, ?_⟩;rintro _ rfl;simp[go_sem, undef];((repeat' (first|refine qy ?_|(refine qo fun Y Yh=>?_;simp[go_sem, undef])|(refine qC fun Y Yh=>?_;simp[go_sem, undef])|(apply Yh;clear Yh Y)));all_goals apply Xi))
   (refine qg fun T F hT hF=>?_;simp[go_sem];refine hT ?_;clear hT hF T F)
   (refine qc fun Y Yh=>?_;simp[go_sem];apply Yh;clear Yh Y;apply Xi)
   (refine qi ?_;simp[go_sem, hF])
  | true =>
   cases cb with
   | false =>
    have hF := hbad1 (by rw [hst1]; simp)
    ((refine qE (.qs [0, 1] (.one 2 (.qs [3, 4, 5, 6] (.one 7 (.qs [8, 9, 10] (.sk 11 (.sk 12 (.sk 13 (.sk 14 (.sk 15 (.sk 16 (.sk 17 (.sk 18 (.sk 20 (.sk 19 (.sk 21 (.sk 22 (.sk 23 (.qs [24] (.nil)))))))))))))))))))) (by kernel_rfl) ?_ ?_ ?_ ?_);kernel_rfl;exact (by decide +kernel);kernel_rfl;intro Y Yh;((repeat' (first|(refine qo fun Y Yh=>?_;simp[go_sem])|(refine qC fun Y Yh=>?_;simp[go_sem])|(apply Yh;clear Yh Y)))))
    ((try refine Xj ?_);refine qm (.inl ⟨rfl,rfl⟩) (by simp[go_sem]) ?_;intro args ha;simp[go_sem] at ha;subst ha;refine ⟨_, N1, ?_⟩;rintro _ rfl;simp[go_sem];((repeat' (first|(refine qH ?_;simp[go_sem])|(refine qo fun Y Yh=>?_;simp[go_sem])|(refine qC fun Y Yh=>?_;simp[go_sem])|(apply Yh;clear Yh Y)))))
    (refine qX (dI (codeP false)) (.inl ⟨rfl,rfl⟩) ?_ rfl ?_;(intro hc args ha;simp[go_sem] at ha;subst ha;exact C1);simp[go_sem, undef, codeP];((repeat' (first|refine qy ?_|(refine qo fun Y Yh=>?_;simp[go_sem, undef, codeP])|(refine qC fun Y Yh=>?_;simp[go_sem, undef, codeP])|(apply Yh;clear Yh Y)));all_goals apply Xi))
    (refine qg fun T F hT hF=>?_;simp[go_sem];refine hT ?_;clear hT hF T F)
    (refine qc fun Y Yh=>?_;simp[go_sem];apply Yh;clear Yh Y;apply Xi)
    (refine qi ?_;simp[go_sem, hF])
   | true =>
    by_cases h0 : i = 0
    ·subst h0
     have hT : nt 1 = true := by rw [hst1]; simp
     ((refine qE (.qs [0, 1] (.one 2 (.qs [3, 4, 5, 6] (.one 7 (.qs [8, 9, 10, 11, 12, 13] (.sk 14 (.sk 15 (.sk 16 (.sk 17 (.sk 18 (.sk 20 (.sk 19 (.sk 21 (.sk 22 (.qs [23, 24] (.nil)))))))))))))))) (by kernel_rfl) ?_ ?_ ?_ ?_);kernel_rfl;exact (by decide +kernel);kernel_rfl;intro Y Yh;((repeat' (first|(refine qo fun Y Yh=>?_;simp[go_sem])|(refine qC fun Y Yh=>?_;simp[go_sem])|(apply Yh;clear Yh Y)))))
     ((try refine Xj ?_);refine qm (.inl ⟨rfl,rfl⟩) (by simp[go_sem]) ?_;intro args ha;simp[go_sem] at ha;subst ha;refine ⟨_, N1, ?_⟩;rintro _ rfl;simp[go_sem];((repeat' (first|(refine qH ?_;simp[go_sem])|(refine qo fun Y Yh=>?_;simp[go_sem])|(refine qC fun Y Yh=>?_;simp[go_sem])|(apply Yh;clear Yh Y)))))
     (refine qX (dI (codeP true)) (.inl ⟨rfl,rfl⟩) ?_ rfl ?_;(intro hc args ha;simp[go_sem] at ha;subst ha;exact C1);simp[go_sem, undef, codeP];((repeat' (first|refine qy ?_|(refine qo fun Y Yh=>?_;simp[go_sem, undef, codeP])|(refine qC fun Y Yh=>?_;simp[go_sem, undef, codeP])|(apply Yh;clear Yh Y)));all_goals apply Xi))
     (refine qg fun T F hT hF=>?_;simp[go_sem];refine hF ?_;clear hT hF T F)
     refine qh ?_
     refine hK4 _ ?_; clear hK4
     (refine qB fun Y Yh=>?_;simp[go_sem];((repeat' (first|apply And.intro|(apply Yh;clear Yh Y)));all_goals first|apply Xi|omega))
     refine ⟨1, ?_, ⟨by omega, hT⟩, by omega⟩
     (refine ql ?_ ?_ <;> simp[go_sem])
    ·obtain ⟨j, rfl⟩ : ∃ j, i = j + 1 := ⟨i - 1, by omega⟩
     obtain ⟨y, hy⟩ : ∃ y, l[j]? = some y := ⟨_, List.getElem?_eq_getElem (by omega)⟩
     have hi1 : ((j : Int) + 1 - 1).toNat = j := by omega
     have hi2 : (j : Int) + 1 - 1 = j := by omega
     have hpos : (0 : Int) < (j : Int) + 1 := by omega
     simp only [Nat.add_sub_cancel, hy] at hst1
     have ec : codeP true = 0 := rfl
     have hm1 := hb y (List.mem_of_getElem? hy)
     ((refine qE (.qs [0, 1] (.one 2 (.qs [3, 4, 5, 6] (.one 7 (.qs [8, 9, 10, 11, 12, 13, 14, 15, 16, 17, 18, 20, 19, 21, 22, 23, 24] (.nil)))))) (by kernel_rfl) ?_ ?_ ?_ ?_);kernel_rfl;exact (by decide +kernel);kernel_rfl;intro Y Yh;((repeat' (first|(refine qo fun Y Yh=>?_;simp[go_sem, hy, hi1, hi2, hpos])|(refine qC fun Y Yh=>?_;simp[go_sem, hy, hi1, hi2, hpos])|(apply Yh;clear Yh Y)))))
     ((try refine Xj ?_);refine qm (.inl ⟨rfl,rfl⟩) (by simp[go_sem]) ?_;intro args ha;simp[go_sem] at ha;subst ha;refine ⟨_, N1, ?_⟩;rintro _ rfl;simp[go_sem, hy, hi1, hi2, hpos];((repeat' (first|(refine qH ?_;simp[go_sem, hy, hi1, hi2, hpos])|(refine qo fun Y Yh=>?_;simp[go_sem, hy, hi1, hi2, hpos])|(refine qC fun Y Yh=>?_;simp[go_sem, hy, hi1, hi2, hpos])|(apply Yh;clear Yh Y)))))
     (refine qX (dI (codeP true)) (.inl ⟨rfl,rfl⟩) ?_ rfl ?_;(intro hc args ha;simp[go_sem] at ha;subst ha;exact C1);simp[go_sem, hy, hi1, hi2, hpos, ec];((repeat' (first|refine qy ?_|(refine qo fun Y Yh=>?_;simp[go_sem, hy, hi1, hi2, hpos, ec])|apply And.intro|(apply Yh;clear Yh Y)));all_goals first|apply Xi|omega))
     (refine qg fun T F hT hF=>?_;simp[go_sem];refine BR.intro (fun h5=>hT ?_) (fun h5=>hF ?_);all_goals clear hT hF T F;try simp at h5)
     ·have hF := hbad1 (by rw [hst1]; simp [h5])
      (refine qc fun Y Yh=>?_;simp[go_sem];apply Yh;clear Yh Y;apply Xi)
      (refine qi ?_;simp[go_sem, hF])
     ·have hT : nt (j + 1 + 1) = true := by rw [hst1]; simp [h5]
      refine qh ?_
      refine hK4 _ ?_; clear hK4
      (refine qB fun Y Yh=>?_;simp[go_sem];((repeat' (first|apply And.intro|(apply Yh;clear Yh Y)));all_goals first|apply Xi|omega))
      refine ⟨j + 1 + 1, ?_, ⟨by omega, hT⟩, by omega⟩
      (refine ql ?_ ?_ <;> simp[go_sem])
 ·refine qp ?_
  simp only [go_sem]
  refine hK1 _ ?_; clear hK1
  have : i = l.length := by omega
  subst this
  rw [hn]
  (refine qc fun Y Yh=>?_;simp[go_sem];apply Yh;clear Yh Y;apply Xi)
  (refine qi ?_;simp[go_sem])
set_option maxHeartbeats 4000000 in
theorem kE (l : List Prs) (m : Nat) (hl : l.length ≤ 1000000) (hb : ∀ x ∈ l, x.1.length ≤ 1000000 ∧ x.2.length ≤ 1000000) : PCall Tryz.prog 120 [dPs l, dI m] fun r => r = dB (needsV m l) := by 
 refine qw Tryz.func120 rfl rfl Tryz.ntmps120 (rs := [.tmp 4]) (tys := [4]) rfl rfl (by simp) ?_
 have hbad := fun n (h : needTo l n = false) (hn : n ≤ l.length) => needTo_bad h l.length hn
 have hst := need_step l
 have hz : needTo l 0 = true := rfl
 unfold needsV
 generalize needTo l = nt at *
 (refine qc fun Y Yh=>?_;simp[go_sem];apply Yh;clear Yh Y;apply Xi)
 refine qf fun K1 hK1 => ?_
 (refine qc fun Y Yh=>?_;simp[go_sem];apply Yh;clear Yh Y;apply Xi)
 (refine qg fun T F hT hF=>?_;simp[go_sem];refine BR.intro (fun h2=>hT ?_) (fun h2=>hF ?_);all_goals clear hT hF T F;try simp at h2) 
 ·have h2' : ¬ l.length ≤ m := by omega
  (refine qc fun Y Yh=>?_;simp[go_sem];apply Yh;clear Yh Y;apply Xi)
  (refine qi ?_;simp[go_sem, h2'])
 ·refine qh ?_
  refine hK1 _ ?_; clear hK1
  have h2' : l.length ≤ m := by omega
  refine qf fun K3 hK3 => ?_
  (refine qc fun Y Yh=>?_;simp[go_sem];apply Yh;clear Yh Y;apply Xi)
  refine qj ?_
  refine qx (σ := Nat) (fun i => ⟨[(0, dPs l), (5, dI i)], []⟩) (fun i => i ≤ l.length ∧ nt i = true) (fun i => l.length - i) 0 ?_ ?_ ?_
  ·(refine ql ?_ ?_ <;> simp[go_sem])
  ·exact ⟨by omega, hz⟩
  rintro i ⟨hi, hn⟩
  refine qf fun K4 hK4 => ?_
  (refine qc fun Y Yh=>?_;simp[go_sem];apply Yh;clear Yh Y;apply Xi)
  (refine qg fun T F hT hF=>?_;simp[go_sem];refine BR.intro (fun h5=>hT ?_) (fun h5=>hF ?_);all_goals clear hT hF T F;try simp at h5) 
  ·refine qh ?_
   refine hK4 _ ?_; clear hK4
   obtain ⟨x, hx⟩ : ∃ x, l[i]? = some x := ⟨_, List.getElem?_eq_getElem (by omega)⟩
   have hb1 := hb x (List.mem_of_getElem? hx)
   have N1 := zT x.1 (by omega)
   have C1 := kG x.2 (by omega)
   have hst1 := hst i x hx
   rw [hn, Bool.true_and] at hst1
   have hbad1 := fun h => hbad (i + 1) h (by omega)
   generalize nameV x.1 = nb at *
   generalize (condsV x.2).isSome = cb at *
   refine qf fun K6 hK6 => ?_
   refine qj ?_
   cases nb with
   | false =>
    have hF := hbad1 (by rw [hst1]; simp)
    ((refine qE (.qs [0, 1, 2, 3, 4] (.one 5 (.qs [6, 7] (.sk 8 (.sk 9 (.sk 10 (.sk 11 (.sk 12 (.sk 13 (.sk 14 (.qs [15, 16] (.sk 17 (.sk 18 (.sk 19 (.sk 20 (.sk 21 (.sk 22 (.sk 23 (.sk 25 (.sk 26 (.sk 27 (.sk 28 (.sk 29 (.sk 24 (.sk 30 (.sk 31 (.sk 32 (.qs [33] (.nil))))))))))))))))))))))))))))) (by kernel_rfl) ?_ ?_ ?_ ?_);kernel_rfl;exact (by decide +kernel);kernel_rfl;intro Y Yh;((repeat' (first|(refine qo fun Y Yh=>?_;simp[go_sem, hx])|(refine qC fun Y Yh=>?_;simp[go_sem, hx])|(apply Yh;clear Yh Y)))))
    ((try refine Xj ?_);refine qm (.inl ⟨rfl,rfl⟩) (by simp[go_sem]) ?_;intro args ha;simp[go_sem] at ha;subst ha;refine ⟨_, N1, ?_⟩;rintro _ rfl;simp[go_sem, undef];((repeat' (first|refine qy ?_|(refine qo fun Y Yh=>?_;simp[go_sem, undef])|(refine qC fun Y Yh=>?_;simp[go_sem, undef])|(apply Yh;clear Yh Y)));all_goals apply Xi))
    (refine qg fun T F hT hF=>?_;simp[go_sem];refine hT ?_;clear hT hF T F)
    (refine qc fun Y Yh=>?_;simp[go_sem];apply Yh;clear Yh Y;apply Xi)
    (refine qi ?_;simp[go_sem, hF])
   | true =>
    cases cb with
    | false =>
     have hF := hbad1 (by rw [hst1]; simp)
     ((refine qE (.qs [0, 1, 2, 3, 4] (.one 5 (.qs [6, 7, 8, 9, 10, 11, 12] (.one 13 (.qs [14, 15, 16] (.sk 17 (.sk 18 (.sk 19 (.sk 20 (.sk 21 (.sk 22 (.sk 23 (.sk 25 (.sk 26 (.sk 27 (.sk 28 (.sk 29 (.sk 24 (.sk 30 (.sk 31 (.sk 32 (.qs [33] (.nil))))))))))))))))))))))) (by kernel_rfl) ?_ ?_ ?_ ?_);kernel_rfl;exact (by decide +kernel);kernel_rfl;intro Y Yh;((repeat' (first|(refine qo fun Y Yh=>?_;simp[go_sem, hx])|(refine qC fun Y Yh=>?_;simp[go_sem, hx])|(apply Yh;clear Yh Y)))))
     ((try refine Xj ?_);refine qm (.inl ⟨rfl,rfl⟩) (by simp[go_sem]) ?_;intro args ha;simp[go_sem] at ha;subst ha;refine ⟨_, N1, ?_⟩;rintro _ rfl;simp[go_sem, hx];((repeat' (first|(refine qH ?_;simp[go_sem, hx])|(refine qo fun Y Yh=>?_;simp[go_sem, hx])|(refine qC fun Y Yh=>?_;simp[go_sem, hx])|(apply Yh;clear Yh Y)))))
     (refine qX (dI (codeP false)) (.inl ⟨rfl,rfl⟩) ?_ rfl ?_;(intro hc args ha;simp[go_sem] at ha;subst ha;exact C1);simp[go_sem, undef, codeP];((repeat' (first|refine qy ?_|(refine qo fun Y Yh=>?_;simp[go_sem, undef, codeP])|(refine qC fun Y Yh=>?_;simp[go_sem, undef, codeP])|(apply Yh;clear Yh Y)));all_goals apply Xi))
     (refine qg fun T F hT hF=>?_;simp[go_sem];refine hT ?_;clear hT hF T F)
     (refine qc fun Y Yh=>?_;simp[go_sem];apply Yh;clear Yh Y;apply Xi)
     (refine qi ?_;simp[go_sem, hF])
    | true =>
     by_cases h0 : i = 0
     ·subst h0
      have hT : nt 1 = true := by rw [hst1]; simp
      ((refine qE (.qs [0, 1, 2, 3, 4] (.one 5 (.qs [6, 7, 8, 9, 10, 11, 12] (.one 13 (.qs [14, 15, 16, 17, 18, 19] (.sk 20 (.sk 21 (.sk 22 (.sk 23 (.sk 25 (.sk 26 (.sk 27 (.sk 28 (.sk 29 (.sk 24 (.sk 30 (.sk 31 (.qs [32, 33] (.nil))))))))))))))))))) (by kernel_rfl) ?_ ?_ ?_ ?_);kernel_rfl;exact (by decide +kernel);kernel_rfl;intro Y Yh;((repeat' (first|(refine qo fun Y Yh=>?_;simp[go_sem, hx])|(refine qC fun Y Yh=>?_;simp[go_sem, hx])|(apply Yh;clear Yh Y)))))
      ((try refine Xj ?_);refine qm (.inl ⟨rfl,rfl⟩) (by simp[go_sem]) ?_;intro args ha;simp[go_sem] at ha;subst ha;refine ⟨_, N1, ?_⟩;rintro _ rfl;simp[go_sem, hx];((repeat' (first|(refine qH ?_;simp[go_sem, hx])|(refine qo fun Y Yh=>?_;simp[go_sem, hx])|(refine qC fun Y Yh=>?_;simp[go_sem, hx])|(apply Yh;clear Yh Y)))))
      (refine qX (dI (codeP true)) (.inl ⟨rfl,rfl⟩) ?_ rfl ?_;(intro hc args ha;simp[go_sem] at ha;subst ha;exact C1);simp[go_sem, undef, codeP];((repeat' (first|refine qy ?_|(refine qo fun Y Yh=>?_;simp[go_sem, undef, codeP])|(refine qC fun Y Yh=>?_;simp[go_sem, undef, codeP])|(apply Yh;clear Yh Y)));all_goals apply Xi))
      (refine qg fun T F hT hF=>?_;simp[go_sem];refine hF ?_;clear hT hF T F)
      refine qh ?_
      refine hK6 _ ?_; clear hK6
      (refine qB fun Y Yh=>?_;simp[go_sem];((repeat' (first|apply And.intro|(apply Yh;clear Yh Y)));all_goals first|apply Xi|omega))
      refine ⟨1, ?_, ⟨by omega, hT⟩, by omega⟩
      (refine ql ?_ ?_ <;> simp[go_sem])
     ·obtain ⟨j, rfl⟩ : ∃ j, i = j + 1 := ⟨i - 1, by omega⟩
      obtain ⟨y, hy⟩ : ∃ y, l[j]? = some y := ⟨_, List.getElem?_eq_getElem (by omega)⟩
      have hi1 : ((j : Int) + 1 - 1).toNat = j := by omega
      have hi2 : (j : Int) + 1 - 1 = j := by omega
      have hpos : (0 : Int) < (j : Int) + 1 := by omega
      simp only [Nat.add_sub_cancel, hy] at hst1
      have ec : codeP true = 0 := rfl
      have hm1 := hb y (List.mem_of_getElem? hy)
      have hi3 : ((j : Int) + 1).toNat = j + 1 := by omega
      ((refine qE (.qs [0, 1, 2, 3, 4] (.one 5 (.qs [6, 7, 8, 9, 10, 11, 12] (.one 13 (.qs [14, 15, 16, 17, 18, 19, 20, 21, 22, 23, 25, 26, 27, 28, 29, 24, 30, 31, 32, 33] (.nil)))))) (by kernel_rfl) ?_ ?_ ?_ ?_);kernel_rfl;exact (by decide +kernel);kernel_rfl;intro Y Yh;((repeat' (first|(refine qo fun Y Yh=>?_;simp[go_sem, hx, hy, hi1, hi2, hi3, hpos])|(refine qC fun Y Yh=>?_;simp[go_sem, hx, hy, hi1, hi2, hi3, hpos])|apply And.intro|(apply Yh;clear Yh Y)));all_goals first|omega|skip))
      ((try refine Xj ?_);refine qm (.inl ⟨rfl,rfl⟩) (by simp[go_sem]) ?_;intro args ha;simp[go_sem] at ha;subst ha;refine ⟨_, N1, ?_⟩;rintro _ rfl;simp[go_sem, hx, hy, hi1, hi2, hi3, hpos];((repeat' (first|(refine qH ?_;simp[go_sem, hx, hy, hi1, hi2, hi3, hpos])|(refine qo fun Y Yh=>?_;simp[go_sem, hx, hy, hi1, hi2, hi3, hpos])|(refine qC fun Y Yh=>?_;simp[go_sem, hx, hy, hi1, hi2, hi3, hpos])|apply And.intro|(apply Yh;clear Yh Y)));all_goals first|omega|skip))
      (refine qX (dI (codeP true)) (.inl ⟨rfl,rfl⟩) ?_ rfl ?_;(intro hc args ha;simp[go_sem] at ha;subst ha;exact C1);simp[go_sem, hx, hy, hi1, hi2, hi3, hpos, ec];((repeat' (first|refine qy ?_|(refine qo fun Y Yh=>?_;simp[go_sem, hx, hy, hi1, hi2, hi3, hpos, ec])|apply And.intro|(apply Yh;clear Yh Y)));all_goals first|apply Xi|omega))
      (refine qg fun T F hT hF=>?_;simp[go_sem];refine BR.intro (fun h7=>hT ?_) (fun h7=>hF ?_);all_goals clear hT hF T F;try simp at h7)
      ·have hF := hbad1 (by rw [hst1]; simp [h7])
       (refine qc fun Y Yh=>?_;simp[go_sem];apply Yh;clear Yh Y;apply Xi)
       (refine qi ?_;simp[go_sem, hF])
      ·have hT : nt (j + 1 + 1) = true := by rw [hst1]; simp [h7]
       refine qh ?_
       refine hK6 _ ?_; clear hK6
       (refine qB fun Y Yh=>?_;simp[go_sem];((repeat' (first|apply And.intro|(apply Yh;clear Yh Y)));all_goals first|apply Xi|omega))
       refine ⟨j + 1 + 1, ?_, ⟨by omega, hT⟩, by omega⟩
       (refine ql ?_ ?_ <;> simp[go_sem])
  ·refine qp ?_
   simp only [go_sem]
   refine hK3 _ ?_; clear hK3
   have : i = l.length := by omega
   subst this
   rw [hn]
   (refine qc fun Y Yh=>?_;simp[go_sem];apply Yh;clear Yh Y;apply Xi)
   (refine qi ?_;simp[go_sem, h2'])
end Go.Proofs.YteekfnhhlcmcgaaGreatDoor
