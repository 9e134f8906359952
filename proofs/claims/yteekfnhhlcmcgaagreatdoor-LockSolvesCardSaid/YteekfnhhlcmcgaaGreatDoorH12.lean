/- Part of a proof: see the last text. -/
import Derived.Test.YteekfnhhlcmcgaaGreatDoorH10
import Derived.Test.YteekfnhhlcmcgaaGreatDoorH11
import Derived.Test.YteekfnhhlcmcgaaGreatDoorH08
import Derived.Test.YteekfnhhlcmcgaaGreatDoorH09
import Derived.Test.YteekfnhhlcmcgaaGreatDoorH07
set_option linter.unusedVariables false
set_option linter.unusedSimpArgs false
namespace Go.Proofs.YteekfnhhlcmcgaaGreatDoor
open Go.Eng Go.Wh Go.Ver Go.RowKit Go.Lk
set_option maxRecDepth 20000
theorem xK (n : Nat) (hn : n ≤ 1000000) : PCall Tryz.prog 126 [.v (.int .u64 n)] fun r => ∃ k : Int, r = dI k := by
 refine zt ⟨_, Tryz.func126, rfl, rfl⟩ fun C w us hc hg hr => ?_
 obtain rfl := repL_v (us := [.int .u64 n]) hr
 refine (Tryz.bits_Len (n : Int) w (by omega) (by omega)).mono ?_
 rintro e w' ⟨rfl, rfl⟩
 exact ⟨_, _, rfl, ⟨_, rfl⟩, .v _, Below.refl _ _⟩
end Go.Proofs.YteekfnhhlcmcgaaGreatDoor
namespace Go.Proofs.YteekfnhhlcmcgaaGreatDoor
open Go.Eng Go.Wh Go.Ver Go.Lk
set_option maxRecDepth 20000
attribute [local irreducible] AG CallA CallT AWp PCall ACall AgC
def mT (ns : List Bs) : List (Value × D) := ns.map fun n => (.string ⟨n.toArray⟩, dB true)
theorem beq_bs2 (a b : Bs) : ((⟨a.toArray⟩ : ByteArray).data.toList == (⟨b.toArray⟩ : ByteArray).data.toList) = decide (a = b) := by
 by_cases h : a = b
 ·subst h; simp
 ·simp [h]
theorem mfind_mT (r : Bs) : ∀ ns : List Bs, mfind 1 (.string ⟨r.toArray⟩) (mT ns) = some (if r ∈ ns then some (dB true) else none)
 | [] => rfl
 | k :: m => by
  have ih := mfind_mT r m
  unfold mT at ih ⊢
  simp only [List.map_cons, mfind, keyEq, beq_bs2]
  by_cases h : r = k
  ·simp [h]
  ·have hb : (r == k) = false := by simp [h]
   simp [h, ih, hb]
theorem mput_mT (d : Bs) : ∀ ns : List Bs, mput 1 (.string ⟨d.toArray⟩) (dB true) (mT ns) = mT (if d ∈ ns then ns else ns ++ [d])
 | [] => rfl
 | k :: m => by
  have ih := mput_mT d m
  unfold mT at ih ⊢
  simp only [List.map_cons, mput, keyEq, beq_bs2]
  by_cases h : d = k
  ·simp [h]
  ·have hb : (d == k) = false := by simp [h]
   by_cases hm : d ∈ m
   ·rw [if_pos hm] at ih
    simp [h, ih, hb, hm]
   ·rw [if_neg hm] at ih
    simp [h, ih, hb, hm]
theorem mfind_mT1 {r : Bs} {ns : List Bs} (h : r ∈ ns) : mfind 1 (.string ⟨r.toArray⟩) (mT ns) = some (some (dB true)) := by rw [mfind_mT, if_pos h]
theorem mfind_mT0 {r : Bs} {ns : List Bs} (h : r ∉ ns) : mfind 1 (.string ⟨r.toArray⟩) (mT ns) = some none := by rw [mfind_mT, if_neg h]
set_option maxHeartbeats 8000000 in
theorem kD (l : List Prs) (most : Nat) (hl : SzN l) (hm : most ≤ 1000000) : PCall Tryz.prog 127 [dPs l, dI most] fun r => r = dB (nuV most l) := by 
 refine qw Tryz.func127 rfl rfl Tryz.ntmps127 (rs := [.tmp 4]) (tys := [4]) rfl rfl (by simp) ?_
 obtain ⟨hl0, hl1⟩ := hl
 have hbad := fun n (h : upTo (nuAt l) n = false) (hn : n ≤ l.length) => upTo_bad h l.length hn
 have hst := fun i x => @nu_step l x i
 have hz : upTo (nuAt l) 0 = true := rfl
 have hap := fun i x (h : i ≤ l.length) => @apart_nset l x i h
 unfold nuV
 generalize upTo (nuAt l) = nt at *
 (refine qc fun Y Yh=>?_;simp[go_sem];apply Yh;clear Yh Y;apply Xi)
 (refine qc fun Y Yh=>?_;simp[go_sem];intro _;apply Yh;clear Yh Y;apply Xi)
 rename_i gm
 refine qf fun K1 hK1 => ?_
 (refine qc fun Y Yh=>?_;simp[go_sem];apply Yh;clear Yh Y;apply Xi)
 refine qj ?_
 refine qx (σ := Nat) (fun i => ⟨[(0, dPs l), (1, dI most), (5, .own 8 gm), (9, dPs l), (10, dI l.length), (11, dI i)], [(8, (gm, .map (mT (nset l i))))]⟩) (fun i => i ≤ l.length ∧ nt i = true) (fun i => l.length - i) 0 ?_ ?_ ?_
 ·(refine ql ?_ ?_ <;> simp[go_sem, mT, nset])
 ·exact ⟨by omega, hz⟩
 rintro i ⟨hi, hn⟩
 (refine qc fun Y Yh=>?_;simp[go_sem];apply Yh;clear Yh Y;apply Xi)
 refine qf fun K2 hK2 => ?_
 (refine qg fun T F hT hF=>?_;simp[go_sem];refine BR.intro (fun h3=>hT ?_) (fun h3=>hF ?_);all_goals clear hT hF T F;try simp at h3) 
 ·refine qh ?_
  refine hK2 _ ?_; clear hK2
  obtain ⟨x, hx⟩ : ∃ x, l[i]? = some x := ⟨_, List.getElem?_eq_getElem (by omega)⟩
  obtain ⟨hx1, hx2⟩ := hl1 x (List.mem_of_getElem? hx)
  have N1 := ji x.1 (by omega)
  have C1 := vZ x.2 hx2
  rw [ZP] at C1
  have hst1 := hst i x hx hn
  have hbad1 := fun h => hbad (i + 1) h (by omega)
  rw [hap i x (by omega)] at hst1
  have hsn := @nset_snoc l i x hx
  generalize nset l i = ns at *
  generalize nameV x.1 = nb at *
  generalize (condsV x.2).isSome = cb at *
  refine qf fun K4 hK4 => ?_
  refine qj ?_
  (refine qc fun Y Yh=>?_;simp[go_sem, hx];intro _;apply Yh;clear Yh Y;apply Xi)
  refine qf fun K5 hK5 => ?_
  by_cases hm : x.1 ∈ ns
  ·have hF := hbad1 (by rw [hst1]; simp [hm])
   have hf := mfind_mT1 hm
   cases nb with
   | false =>
    (refine qc fun Y Yh=>?_;simp[go_sem])
    ((try refine Xj ?_);refine qm (.inl ⟨rfl,rfl⟩) (by simp[go_sem]) ?_;intro args ha;simp[go_sem] at ha;subst ha;refine ⟨_, N1, ?_⟩;rintro _ rfl;simp[go_sem, hf];((repeat' (first|(refine qG (by simp[go_sem, undef, hf]) (by simp[go_sem]) ?_;simp[go_sem, hf])|intro _|apply And.intro|(apply Yh;clear Yh Y)));all_goals first|apply Xi|omega|assumption|skip))
    (refine qg fun T F hT hF=>?_;simp[go_sem];refine hT ?_;clear hT hF T F)
    (refine qc fun Y Yh=>?_;simp[go_sem];apply Yh;clear Yh Y;apply Xi)
    (refine qi ?_;simp[go_sem, hF])
   | true =>
    (refine qc fun Y Yh=>?_;simp[go_sem])
    ((try refine Xj ?_);refine qm (.inl ⟨rfl,rfl⟩) (by simp[go_sem]) ?_;intro args ha;simp[go_sem] at ha;subst ha;refine ⟨_, N1, ?_⟩;rintro _ rfl;simp[go_sem, hf];((repeat' (first|(refine qG ?_ ?_ ?_;(focus (simp[go_sem, undef, hf];done));(focus (simp[go_sem];done));simp[go_sem, hf])|(refine qJ ?_ ?_;(focus (simp[go_sem, undef, hf];done));simp[go_sem, hf])|(apply Yh;clear Yh Y)));all_goals apply Xi))
    (refine qg fun T F hT hF=>?_;simp[go_sem];refine hT ?_;clear hT hF T F)
    (refine qc fun Y Yh=>?_;simp[go_sem];apply Yh;clear Yh Y;apply Xi)
    (refine qi ?_;simp[go_sem, hF])
  ·have hf := mfind_mT0 hm
   have hput := mput_mT x.1 ns
   rw [if_neg hm] at hput hsn
   cases nb with
   | false =>
    have hF := hbad1 (by rw [hst1]; simp)
    (refine qc fun Y Yh=>?_;simp[go_sem])
    ((try refine Xj ?_);refine qm (.inl ⟨rfl,rfl⟩) (by simp[go_sem]) ?_;intro args ha;simp[go_sem] at ha;subst ha;refine ⟨_, N1, ?_⟩;rintro _ rfl;simp[go_sem, hf];((repeat' (first|(refine qG (by simp[go_sem, undef, hf]) (by simp[go_sem]) ?_;simp[go_sem, hf])|intro _|apply And.intro|(apply Yh;clear Yh Y)));all_goals first|apply Xi|omega|assumption|skip))
    (refine qg fun T F hT hF=>?_;simp[go_sem];refine hT ?_;clear hT hF T F)
    (refine qc fun Y Yh=>?_;simp[go_sem];apply Yh;clear Yh Y;apply Xi)
    (refine qi ?_;simp[go_sem, hF])
   | true =>
    (refine qc fun Y Yh=>?_;simp[go_sem])
    ((try refine Xj ?_);refine qm (.inl ⟨rfl,rfl⟩) (by simp[go_sem]) ?_;intro args ha;simp[go_sem] at ha;subst ha;refine ⟨_, N1, ?_⟩;rintro _ rfl;simp[go_sem, hf];((repeat' (refine qH ?_;simp[go_sem, hf]))))
    (refine qX (dI (if cb = true then 0 else 4)) (.inl ⟨rfl,rfl⟩) ?_ rfl ?_;(intro hc args ha;simp[go_sem] at ha;subst ha;exact C1);simp[go_sem];refine qH ?_;simp[go_sem];apply Yh;clear Yh Y;apply Xi)
    cases cb with
    | false =>
     have hF := hbad1 (by rw [hst1]; simp)
     (refine qg fun T F hT hF=>?_;simp[go_sem];refine hT ?_;clear hT hF T F)
     (refine qc fun Y Yh=>?_;simp[go_sem];apply Yh;clear Yh Y;apply Xi)
     (refine qi ?_;simp[go_sem, hF])
    | true =>
     (refine qg fun T F hT hF=>?_;simp[go_sem];refine hF ?_;clear hT hF T F)
     refine qh ?_
     refine hK5 _ ?_; clear hK5
     (refine qB fun Y Yh=>?_;simp[go_sem, hput, hf];apply Yh;clear Yh Y;apply Xi)
     refine hK4 _ ?_; clear hK4
     (refine qB fun Y Yh=>?_;simp[go_sem];((repeat' (first|apply And.intro|(apply Yh;clear Yh Y)));all_goals first|apply Xi|omega))
     refine ⟨i + 1, ?_, ⟨by omega, by rw [hst1]; simp [hm]⟩, by omega⟩
     rw [hsn]
     (refine ql ?_ ?_ <;> simp[go_sem])
 ·refine qp ?_
  simp only [go_sem]
  refine hK1 _ ?_; clear hK1
  have : i = l.length := by omega
  subst this
  (refine qc fun Y Yh=>?_;simp[go_sem];apply Yh;clear Yh Y;apply Xi)
  (refine qi ?_;simp[go_sem, hn])
theorem jc (v r : Bs) (hv : v.length ≤ 1000000) (hr : r.length ≤ 1000000) : PCall Tryz.prog 132 [dS v, dS r] fun x => x = dB (meetsP v r) := by 
 refine qw Tryz.func132 rfl rfl Tryz.ntmps132 (rs := [.tmp 4]) (tys := [4]) rfl rfl (by simp) ?_
 have M := ZI v r hv hr
 generalize meetsP v r = b at *
 (refine qc fun Y Yh=>?_;simp[go_sem];apply Yh;clear Yh Y;apply Xi)
 (refine qc fun Y Yh=>?_;simp[go_sem])
 ((try refine Xj ?_);refine qm (.inl ⟨rfl,rfl⟩) (by simp[go_sem]) ?_;intro args ha;simp[go_sem] at ha;subst ha;refine ⟨_, M, ?_⟩;rintro _ rfl;simp[go_sem];apply Yh;clear Yh Y;apply Xi)
 (refine qc fun Y Yh=>?_;simp[go_sem];apply Yh;clear Yh Y;apply Xi)
 (refine qi ?_;simp[go_sem])
@[go_sem] abbrev dGm (g : Gm) : D := .agg [dS g.1, dVrs g.2]
set_option maxHeartbeats 8000000 in
theorem QX (g : Gm) (hg : SzG g) : PCall Tryz.prog 128 [dGm g] fun r => r = dB (nameV g.1 && vuV g.2) := by 
 refine qw Tryz.func128 rfl rfl Tryz.ntmps128 (rs := [.tmp 2]) (tys := [4]) rfl rfl (by simp) ?_
 obtain ⟨nm, l⟩ := g
 obtain ⟨hn0, hl, hv⟩ := hg
 simp only at hn0 hl hv
 have hbad := fun n (h : upTo (vuAt l) n = false) (hn : n ≤ l.length) => upTo_bad h l.length hn
 have hst := fun i x => @vu_step l x i
 have hz : upTo (vuAt l) 0 = true := rfl
 have N0 := ji nm (by omega)
 unfold vuV
 simp only
 generalize upTo (vuAt l) = nt at *
 generalize nameV nm = nb at *
 (refine qc fun Y Yh=>?_;simp[go_sem];intro _;apply Yh;clear Yh Y;apply Xi)
 rename_i gb
 refine qA 1 rfl rfl ?_
 simp only [go_sem]
 refine qf fun K1 hK1 => ?_
 cases nb with
 | false =>
  (refine qc fun Y Yh=>?_;simp[go_sem])
  ((try refine Xj ?_);refine qm (.inl ⟨rfl,rfl⟩) (by simp[go_sem]) ?_;intro args ha;simp[go_sem] at ha;subst ha;refine ⟨_, N0, ?_⟩;rintro _ rfl;simp[go_sem];((repeat' (first|(refine qG (by simp[go_sem, undef]) (by simp[go_sem]) ?_;simp[go_sem])|intro _|apply And.intro|(apply Yh;clear Yh Y)));all_goals first|apply Xi|omega|assumption|skip))
  (refine qg fun T F hT hF=>?_;simp[go_sem];refine hT ?_;clear hT hF T F)
  (refine qc fun Y Yh=>?_;simp[go_sem];apply Yh;clear Yh Y;apply Xi)
  (refine qi ?_;simp[go_sem])
 | true =>
  by_cases h12 : l.length ≤ 12
  ·(refine qc fun Y Yh=>?_;simp[go_sem])
   ((try refine Xj ?_);refine qm (.inl ⟨rfl,rfl⟩) (by simp[go_sem]) ?_;intro args ha;simp[go_sem] at ha;subst ha;refine ⟨_, N0, ?_⟩;rintro _ rfl;simp[go_sem];((repeat' (first|(refine qJ ?_ ?_;(focus (simp[go_sem, undef];done));simp[go_sem])|(apply Yh;clear Yh Y)));all_goals apply Xi))
   (refine qg fun T F hT hF=>?_;simp[go_sem];refine BR.intro (fun h1=>hT ?_) (fun h1=>hF ?_);all_goals clear hT hF T F;try simp at h1)
   ·exact absurd h1 (by omega)
   refine qh ?_
   refine hK1 _ ?_; clear hK1
   refine qf fun K3 hK3 => ?_
   (refine qc fun Y Yh=>?_;simp[go_sem];apply Yh;clear Yh Y;apply Xi)
   refine qj ?_
   refine qx (σ := Nat) (fun i => ⟨[(1, .rd [dS nm, dVrs l]), (20, dVrs l), (21, dI l.length), (22, dI i)], []⟩) (fun i => i ≤ l.length ∧ nt i = true) (fun i => l.length - i) 0 ?_ ?_ ?_
   ·(refine ql ?_ ?_ <;> simp[go_sem])
   ·exact ⟨by omega, hz⟩
   rintro i ⟨hi, hn⟩
   (refine qc fun Y Yh=>?_;simp[go_sem];apply Yh;clear Yh Y;apply Xi)
   refine qf fun K4 hK4 => ?_
   (refine qg fun T F hT hF=>?_;simp[go_sem];refine BR.intro (fun h5=>hT ?_) (fun h5=>hF ?_);all_goals clear hT hF T F;try simp at h5)
   ·refine qh ?_
    refine hK4 _ ?_; clear hK4
    obtain ⟨x, hx⟩ : ∃ x, l[i]? = some x := ⟨_, List.getElem?_eq_getElem (by omega)⟩
    obtain ⟨hx1, hx2⟩ := hv x (List.mem_of_getElem? hx)
    have N1 := vX x.1 (by omega)
    have C1 := kD x.2 6 hx2 (by decide)
    have hst1 := hst i x hx hn
    have hbad1 := fun h => hbad (i + 1) h (by omega)
    have hap := fun k y => @rank_step' l x y k
    have hap0 : upTo (rankAt l x) 0 = true := rfl
    have hapb := fun n (h : upTo (rankAt l x) n = false) (hn : n ≤ i) => upTo_bad h i hn
    generalize upTo (rankAt l x) = ap at *
    generalize hnb : (readV x.1).isSome = nb at *
    generalize nuV 6 x.2 = cb at *
    refine qf fun K6 hK6 => ?_
    refine qj ?_
    (refine qc fun Y Yh=>?_;simp[go_sem, hx];intro _;apply Yh;clear Yh Y;apply Xi)
    rename_i gv
    refine qf fun K7 hK7 => ?_
    (refine qc fun Y Yh=>?_;simp[go_sem])
    ((try refine Xj ?_);refine qm (.inl ⟨rfl,rfl⟩) (by simp[go_sem]) ?_;intro args ha;simp[go_sem] at ha;subst ha;refine ⟨_, N1, ?_⟩;rintro _ rfl;simp[go_sem];((repeat' (refine qH ?_;simp[go_sem]))))
    (refine qX (dB cb) (.inl ⟨rfl,rfl⟩) ?_ rfl ?_;(intro hc args ha;simp[go_sem] at ha;subst ha;exact C1);simp[go_sem];refine qH ?_;simp[go_sem];apply Yh;clear Yh Y;apply Xi)
    cases nb with
    | false =>
     have hF := hbad1 (by rw [hst1]; simp)
     (refine qg fun T F hT hF=>?_;simp[go_sem];refine hT ?_;clear hT hF T F)
     (refine qc fun Y Yh=>?_;simp[go_sem];apply Yh;clear Yh Y;apply Xi)
     (refine qi ?_;simp[go_sem, hF])
    | true =>
     cases cb with
     | false =>
      have hF := hbad1 (by rw [hst1]; simp)
      (refine qg fun T F hT hF=>?_;simp[go_sem];refine hT ?_;clear hT hF T F)
      (refine qc fun Y Yh=>?_;simp[go_sem];apply Yh;clear Yh Y;apply Xi)
      (refine qi ?_;simp[go_sem, hF])
     | true =>
      (refine qg fun T F hT hF=>?_;simp[go_sem];refine hF ?_;clear hT hF T F)
      refine qh ?_
      refine hK7 _ ?_; clear hK7
      simp only [Bool.true_and] at hst1
      (refine qc fun Y Yh=>?_;simp[go_sem];((repeat' (first|apply And.intro|(apply Yh;clear Yh Y)));all_goals first|apply Xi|omega))
      refine qj ?_
      refine qx (σ := Nat) (fun k => ⟨[(1, .rd [dS nm, dVrs l]), (20, dVrs l), (21, dI l.length), (22, dI i), (3, dI i), (4, .ptr 4 gv 0), (40, .sl 2 ((l.map cVr).take i)), (41, dI i), (42, dI k)], [(4, (gv, .box [dS x.1, dPs x.2]))]⟩) (fun k => k ≤ i ∧ ap k = true) (fun k => i - k) 0 ?_ ?_ ?_
      ·(refine ql ?_ ?_ <;> simp[go_sem])
       omega
      ·exact ⟨by omega, hap0⟩
      rintro k ⟨hk, ha⟩
      (refine qc fun Y Yh=>?_;simp[go_sem];apply Yh;clear Yh Y;apply Xi)
      refine qf fun K8 hK8 => ?_
      (refine qg fun T F hT hF=>?_;simp[go_sem];refine BR.intro (fun h9=>hT ?_) (fun h9=>hF ?_);all_goals clear hT hF T F;try simp at h9)
      ·refine qh ?_
       refine hK8 _ ?_; clear hK8
       obtain ⟨y, hy⟩ : ∃ y, l[k]? = some y := ⟨_, List.getElem?_eq_getElem (by omega)⟩
       obtain ⟨hy1, _⟩ := hv y (List.mem_of_getElem? hy)
       have hap1 := hap k y hy ha
       have CM := xN x.1 y.1 hx1 hy1
       have hyt : ((l.map cVr).take i)[k]? = some (cVr y) := by rw [List.getElem?_take, if_pos (by omega), List.getElem?_map, hy]; rfl
       generalize compareP x.1 y.1 = cv at *
       generalize codeP ((readV x.1).isSome && (readV y.1).isSome) = ce at *
       refine qf fun K10 hK10 => ?_
       refine qj ?_
       (refine qc fun Y Yh=>?_;simp[go_sem, hyt];intro _;apply Yh;clear Yh Y;apply Xi)
       (refine qc fun Y Yh=>?_;simp[go_sem])
       ((try refine Xj ?_);refine qm (.inl ⟨rfl,rfl⟩) (by simp[go_sem]) ?_;intro args ha;simp[go_sem] at ha;subst ha;refine ⟨_, CM, ?_⟩;rintro _ rfl;simp[go_sem];apply Yh;clear Yh Y;apply Xi)
       (refine qc fun Y Yh=>?_;simp[go_sem];apply Yh;clear Yh Y;apply Xi)
       (refine qg fun T F hT hF=>?_;simp[go_sem];refine BR.intro (fun h11=>hT ?_) (fun h11=>hF ?_);all_goals clear hT hF T F;try simp at h11)
       ·have hF := hbad1 (by rw [hst1]; exact hapb (k + 1) (by rw [hap1]; simp [h11]) (by omega))
        (refine qc fun Y Yh=>?_;simp[go_sem];apply Yh;clear Yh Y;apply Xi)
        (refine qi ?_;simp[go_sem, hF])
       ·refine qh ?_
        refine hK10 _ ?_; clear hK10
        (refine qB fun Y Yh=>?_;simp[go_sem];((repeat' (first|apply And.intro|(apply Yh;clear Yh Y)));all_goals first|apply Xi|omega))
        refine ⟨k + 1, ?_, ⟨by omega, by rw [hap1]; simp [h11]⟩, by omega⟩
        (refine ql ?_ ?_ <;> simp[go_sem])
      ·refine qp ?_
       simp only [go_sem]
       have hki : k = i := by omega
       subst hki
       refine hK6 _ ?_; clear hK6
       (refine qB fun Y Yh=>?_;simp[go_sem];((repeat' (first|apply And.intro|(apply Yh;clear Yh Y)));all_goals first|apply Xi|omega))
       refine ⟨k + 1, ?_, ⟨by omega, by rw [hst1]; exact ha⟩, by omega⟩
       (refine ql ?_ ?_ <;> simp[go_sem])
   ·refine qp ?_
    simp only [go_sem]
    refine hK3 _ ?_; clear hK3
    have : i = l.length := by omega
    subst this
    (refine qc fun Y Yh=>?_;simp[go_sem];apply Yh;clear Yh Y;apply Xi)
    (refine qi ?_;simp[go_sem, h12, hn])
  ·(refine qc fun Y Yh=>?_;simp[go_sem])
   ((try refine Xj ?_);refine qm (.inl ⟨rfl,rfl⟩) (by simp[go_sem]) ?_;intro args ha;simp[go_sem] at ha;subst ha;refine ⟨_, N0, ?_⟩;rintro _ rfl;simp[go_sem];((repeat' (first|(refine qJ ?_ ?_;(focus (simp[go_sem, undef];done));simp[go_sem])|(apply Yh;clear Yh Y)));all_goals apply Xi))
   (refine qg fun T F hT hF=>?_;simp[go_sem];refine BR.intro (fun h1=>hT ?_) (fun h1=>hF ?_);all_goals clear hT hF T F;try simp at h1)
   ·(refine qc fun Y Yh=>?_;simp[go_sem];apply Yh;clear Yh Y;apply Xi)
    (refine qi ?_;simp[go_sem, h12])
   ·exact absurd h1 (by omega)
set_option maxHeartbeats 8000000 in
theorem jd (s : Src) (w : List Prs) (hs : SzS s) (hw : SzN w) : PCall Tryz.prog 76 [dSrc s, dPs w] fun r => r = dI (if chkV s w then 0 else 1) := by 
 refine qw Tryz.func76 rfl rfl Tryz.ntmps76 (rs := [.tmp 4]) (tys := [35]) rfl rfl (by simp) ?_
 obtain ⟨hs0, hs1⟩ := hs
 have hbad := fun n (h : upTo (suAt s) n = false) (hn : n ≤ s.length) => upTo_bad h s.length hn
 have hst := fun i x => @su_step s x i
 have hz : upTo (suAt s) 0 = true := rfl
 have N0 := kD w 8 hw (by decide)
 unfold chkV suV
 generalize upTo (suAt s) = nt at *
 generalize nuV 8 w = nb at *
 (refine qc fun Y Yh=>?_;simp[go_sem];intro _;apply Yh;clear Yh Y;apply Xi)
 refine qA 2 rfl rfl ?_
 simp only [go_sem]
 refine qf fun K1 hK1 => ?_
 (refine qc fun Y Yh=>?_;simp[go_sem];((repeat' (refine qH ?_;simp[go_sem]))))
 (refine qX (dB nb) (.inl ⟨rfl,rfl⟩) ?_ rfl ?_;(intro hc args ha;simp[go_sem] at ha;subst ha;exact N0);simp[go_sem];refine qH ?_;simp[go_sem];apply Yh;clear Yh Y;apply Xi)
 (refine qg fun T F hT hF=>?_;simp[go_sem];refine BR.intro (fun h2=>hT ?_) (fun h2=>hF ?_);all_goals clear hT hF T F;try simp at h2)
 ·have hb : (decide (s.length ≤ 15) && nt s.length && nb) = false := by
   rcases h2 with h | h
   ·have : ¬ s.length ≤ 15 := by omega
    simp [this]
   ·simp [h]
  (refine qc fun Y Yh=>?_;simp[go_sem];apply Yh;clear Yh Y;apply Xi)
  (refine qi ?_;simp[go_sem, hb])
 ·obtain ⟨h15, h16⟩ : s.length ≤ 15 ∧ nb = true := by
   constructor
   ·have := h2.1; omega
   ·exact h2.2
  subst h16
  refine qh ?_
  refine hK1 _ ?_; clear hK1
  refine qf fun K3 hK3 => ?_
  (refine qc fun Y Yh=>?_;simp[go_sem];apply Yh;clear Yh Y;apply Xi)
  refine qj ?_
  refine qx (σ := Nat) (fun i => ⟨[(2, .rd [dGms s]), (17, dGms s), (18, dI s.length), (19, dI i)], []⟩) (fun i => i ≤ s.length ∧ nt i = true) (fun i => s.length - i) 0 ?_ ?_ ?_
  ·(refine ql ?_ ?_ <;> simp[go_sem])
  ·exact ⟨by omega, hz⟩
  rintro i ⟨hi, hn⟩
  (refine qc fun Y Yh=>?_;simp[go_sem];apply Yh;clear Yh Y;apply Xi)
  refine qf fun K4 hK4 => ?_
  (refine qg fun T F hT hF=>?_;simp[go_sem];refine BR.intro (fun h5=>hT ?_) (fun h5=>hF ?_);all_goals clear hT hF T F;try simp at h5)
  ·refine qh ?_
   refine hK4 _ ?_; clear hK4
   obtain ⟨x, hx⟩ : ∃ x, s[i]? = some x := ⟨_, List.getElem?_eq_getElem (by omega)⟩
   have V := QX x (hs1 x (List.mem_of_getElem? hx))
   have hst1 := hst i x hx hn
   have hbad1 := fun h => hbad (i + 1) h (by omega)
   have e : ∀ a b c : Bool, (a && b && c) = ((a && c) && b) := by decide
   rw [e] at hst1
   clear e
   generalize (nameV x.1 && vuV x.2) = vb at *
   refine qf fun K6 hK6 => ?_
   refine qj ?_
   (refine qc fun Y Yh=>?_;simp[go_sem, hx];intro _;apply Yh;clear Yh Y;apply Xi)
   cases vb with
   | false =>
    have hF := hbad1 (by rw [hst1]; simp)
    ((refine qE (.qs [0] (.one 1 (.qs [2, 3] (.sk 4 (.sk 5 (.sk 6 (.sk 7 (.sk 9 (.sk 10 (.sk 14 (.sk 8 (.sk 11 (.sk 12 (.sk 13 (.sk 15 (.sk 16 (.sk 17 (.qs [18] (.nil))))))))))))))))))) (by kernel_rfl) ?_ ?_ ?_ ?_);kernel_rfl;exact (by decide +kernel);kernel_rfl;intro Y Yh;((repeat' (first|(refine qo fun Y Yh=>?_;simp[go_sem])|(refine qC fun Y Yh=>?_;simp[go_sem])|(apply Yh;clear Yh Y)))))
    ((try refine Xj ?_);refine qm (.inl ⟨rfl,rfl⟩) (by simp[go_sem]) ?_;intro args ha;simp[go_sem] at ha;subst ha;refine ⟨_, V, ?_⟩;rintro _ rfl;simp[go_sem, undef];((repeat' (first|refine qy ?_|(refine qo fun Y Yh=>?_;simp[go_sem, undef])|(refine qC fun Y Yh=>?_;simp[go_sem, undef])|(apply Yh;clear Yh Y)));all_goals apply Xi))
    (refine qg fun T F hT hF=>?_;simp[go_sem];refine hT ?_;clear hT hF T F)
    (refine qc fun Y Yh=>?_;simp[go_sem];apply Yh;clear Yh Y;apply Xi)
    (refine qi ?_;simp[go_sem, hF])
   | true =>
    by_cases h0 : i = 0
    ·subst h0
     have hT : nt 1 = true := by rw [hst1]; simp
     ((refine qE (.qs [0] (.one 1 (.qs [2, 3, 4, 5, 6] (.sk 7 (.sk 9 (.sk 10 (.sk 14 (.sk 8 (.sk 11 (.sk 12 (.sk 13 (.sk 15 (.sk 16 (.qs [17, 18] (.nil))))))))))))))) (by kernel_rfl) ?_ ?_ ?_ ?_);kernel_rfl;exact (by decide +kernel);kernel_rfl;intro Y Yh;((repeat' (first|(refine qo fun Y Yh=>?_;simp[go_sem])|(refine qC fun Y Yh=>?_;simp[go_sem])|(apply Yh;clear Yh Y)))))
     ((try refine Xj ?_);refine qm (.inl ⟨rfl,rfl⟩) (by simp[go_sem]) ?_;intro args ha;simp[go_sem] at ha;subst ha;refine ⟨_, V, ?_⟩;rintro _ rfl;simp[go_sem, undef];((repeat' (first|refine qy ?_|(refine qo fun Y Yh=>?_;simp[go_sem, undef])|(refine qC fun Y Yh=>?_;simp[go_sem, undef])|(apply Yh;clear Yh Y)));all_goals apply Xi))
     (refine qg fun T F hT hF=>?_;simp[go_sem];refine hF ?_;clear hT hF T F)
     refine qh ?_
     refine hK6 _ ?_; clear hK6
     (refine qB fun Y Yh=>?_;simp[go_sem];((repeat' (first|apply And.intro|(apply Yh;clear Yh Y)));all_goals first|apply Xi|omega))
     refine ⟨1, ?_, ⟨by omega, hT⟩, by omega⟩
     (refine ql ?_ ?_ <;> simp[go_sem])
    ·obtain ⟨j, rfl⟩ : ∃ j, i = j + 1 := ⟨i - 1, by omega⟩
     obtain ⟨y, hy⟩ : ∃ y, s[j]? = some y := ⟨_, List.getElem?_eq_getElem (by omega)⟩
     have hi1 : ((j : Int) + 1 - 1).toNat = j := by omega
     have hi2 : (j : Int) + 1 - 1 = j := by omega
     have hi3 : ((j : Int) + 1).toNat = j + 1 := by omega
     have hpos : (0 : Int) < (j : Int) + 1 := by omega
     simp only [Nat.add_sub_cancel, hy] at hst1
     generalize hlb : Op.bytesLess y.1 x.1 = lb at *
     ((refine qE (.qs [0] (.one 1 (.qs [2, 3, 4, 5, 6, 7, 9, 10, 14, 8, 11, 12, 13, 15, 16, 17, 18] (.nil)))) (by kernel_rfl) ?_ ?_ ?_ ?_);kernel_rfl;exact (by decide +kernel);kernel_rfl;intro Y Yh;((repeat' (first|(refine qo fun Y Yh=>?_;simp[go_sem, hy, hi1, hi2, hi3, hpos])|(refine qC fun Y Yh=>?_;simp[go_sem, hy, hi1, hi2, hi3, hpos])|(apply Yh;clear Yh Y)))))
     ((try refine Xj ?_);refine qm (.inl ⟨rfl,rfl⟩) (by simp[go_sem]) ?_;intro args ha;simp[go_sem] at ha;subst ha;refine ⟨_, V, ?_⟩;rintro _ rfl;simp[go_sem, hy, hi1, hi2, hi3, hpos, hlb];((repeat' (first|refine qy ?_|(refine qo fun Y Yh=>?_;simp[go_sem, hy, hi1, hi2, hi3, hpos, hlb])|apply And.intro|(apply Yh;clear Yh Y)));all_goals first|apply Xi|omega))
     cases lb with
     | false =>
      have hF := hbad1 (by rw [hst1]; simp)
      (refine qg fun T F hT hF=>?_;simp[go_sem];refine hT ?_;clear hT hF T F)
      (refine qc fun Y Yh=>?_;simp[go_sem];apply Yh;clear Yh Y;apply Xi)
      (refine qi ?_;simp[go_sem, hF])
     | true =>
      have hT : nt (j + 1 + 1) = true := by rw [hst1]; simp
      (refine qg fun T F hT hF=>?_;simp[go_sem];refine hF ?_;clear hT hF T F)
      refine qh ?_
      refine hK6 _ ?_; clear hK6
      (refine qB fun Y Yh=>?_;simp[go_sem];((repeat' (first|apply And.intro|(apply Yh;clear Yh Y)));all_goals first|apply Xi|omega))
      refine ⟨j + 1 + 1, ?_, ⟨by omega, hT⟩, by omega⟩
      (refine ql ?_ ?_ <;> simp[go_sem])
  ·refine qp ?_
   simp only [go_sem]
   refine hK3 _ ?_; clear hK3
   have : i = s.length := by omega
   subst this
   (refine qc fun Y Yh=>?_;simp[go_sem];apply Yh;clear Yh Y;apply Xi)
   (refine qi ?_;simp[go_sem, h15, hn])
@[go_sem] abbrev dFn (f : Nat) : D := .v (.func (.func f) #[] #[])
def scmpV (a b : Bs) : Int := if Op.bytesLess a b = true then -1 else if Op.bytesLess b a = true then 1 else 0
theorem scmp_neg {a b : Bs} : scmpV a b < 0 ↔ Op.bytesLess a b = true := by
 unfold scmpV
 split
 ·rename_i h; simp [h]
 ·rename_i h; split <;> simp [h]
theorem scmp_zero {a b : Bs} : scmpV a b = 0 ↔ a = b := by
 unfold scmpV
 constructor
 ·intro h
  rcases bl_tri a b with q | q | q
  ·exact q
  ·simp [q] at h
  ·cases hab : Op.bytesLess a b <;> simp [hab, q] at h
 ·rintro rfl
  rw [bl_irr]; rfl
theorem vH (a : Bs) : PCall Tryz.prog 214 [dS a] fun r => r = dB false := by 
 refine qw Tryz.func214 rfl rfl Tryz.ntmps214 (rs := [.tmp 2]) (tys := [4]) rfl rfl (by simp) ?_
 (refine qc fun Y Yh=>?_;simp[go_sem];apply Yh;clear Yh Y;apply Xi)
 (refine qc fun Y Yh=>?_;simp[go_sem];apply Yh;clear Yh Y;apply Xi)
 (refine qi ?_;simp[go_sem])
theorem xg (a b : Bs) : PCall Tryz.prog 180 [dS a, dS b] fun r => r = dI (scmpV a b) := by 
 refine qw Tryz.func180 rfl rfl Tryz.ntmps180 (rs := [.tmp 4]) (tys := [3]) rfl rfl (by simp) ?_
 have A := vH a
 have B := vH b
 unfold scmpV
 (refine qc fun Y Yh=>?_;simp[go_sem];apply Yh;clear Yh Y;apply Xi)
 (refine qc fun Y Yh=>?_;simp[go_sem])
 ((try refine Xj ?_);refine qm (.inl ⟨rfl,rfl⟩) (by simp[go_sem]) ?_;intro args ha;simp[go_sem] at ha;subst ha;refine ⟨_, A, ?_⟩;rintro _ rfl;simp[go_sem];apply Yh;clear Yh Y;apply Xi)
 (refine qc fun Y Yh=>?_;simp[go_sem])
 ((try refine Xj ?_);refine qm (.inl ⟨rfl,rfl⟩) (by simp[go_sem]) ?_;intro args ha;simp[go_sem] at ha;subst ha;refine ⟨_, B, ?_⟩;rintro _ rfl;simp[go_sem];apply Yh;clear Yh Y;apply Xi)
 refine qf fun K1 hK1 => ?_
 (refine qc fun Y Yh=>?_;simp[go_sem];apply Yh;clear Yh Y;apply Xi)
 (refine qg fun T F hT hF=>?_;simp[go_sem];refine hF ?_;clear hT hF T F)
 refine qh ?_
 refine hK1 _ ?_; clear hK1
 refine qf fun K2 hK2 => ?_
 (refine qc fun Y Yh=>?_;simp[go_sem];apply Yh;clear Yh Y;apply Xi)
 (refine qg fun T F hT hF=>?_;simp[go_sem];refine hF ?_;clear hT hF T F)
 refine qh ?_
 refine hK2 _ ?_; clear hK2
 refine qf fun K3 hK3 => ?_
 (refine qc fun Y Yh=>?_;simp[go_sem];apply Yh;clear Yh Y;apply Xi)
 (refine qg fun T F hT hF=>?_;simp[go_sem];refine BR.intro (fun h3=>hT ?_) (fun h3=>hF ?_);all_goals clear hT hF T F;try simp at h3)
 ·(refine qc fun Y Yh=>?_;simp[go_sem];apply Yh;clear Yh Y;apply Xi)
  (refine qi ?_;simp[go_sem, h3])
 ·refine qh ?_
  refine hK3 _ ?_; clear hK3
  refine qf fun K4 hK4 => ?_
  (refine qc fun Y Yh=>?_;simp[go_sem];apply Yh;clear Yh Y;apply Xi)
  (refine qg fun T F hT hF=>?_;simp[go_sem];refine BR.intro (fun h4=>hT ?_) (fun h4=>hF ?_);all_goals clear hT hF T F;try simp at h4)
  ·(refine qc fun Y Yh=>?_;simp[go_sem];apply Yh;clear Yh Y;apply Xi)
   (refine qi ?_;simp[go_sem, h3, h4])
  ·refine qh ?_
   refine hK4 _ ?_; clear hK4
   (refine qc fun Y Yh=>?_;simp[go_sem];apply Yh;clear Yh Y;apply Xi)
   (refine qi ?_;simp[go_sem, h3, h4])
theorem wS (g : Gm) (n : Bs) : PCall Tryz.prog 179 [dGm g, dS n] fun r => r = dI (scmpV g.1 n) := by 
 refine qw Tryz.func179 rfl rfl Tryz.ntmps179 (rs := [.tmp 4]) (tys := [3]) rfl rfl (by simp) ?_
 have A := xg g.1 n
 (refine qc fun Y Yh=>?_;simp[go_sem];intro _;apply Yh;clear Yh Y;apply Xi)
 (refine qc fun Y Yh=>?_;simp[go_sem])
 ((try refine Xj ?_);refine qm (.inl ⟨rfl,rfl⟩) (by simp[go_sem]) ?_;intro args ha;simp[go_sem] at ha;subst ha;refine ⟨_, A, ?_⟩;rintro _ rfl;simp[go_sem];apply Yh;clear Yh Y;apply Xi)
 (refine qi ?_;simp[go_sem])
theorem half (i j : Nat) (h : i + j < 9223372036854775808) : shrI .u64 (IntKind.u64.wrap ((i : Int) + (j : Int))) 1 = (((i + j) / 2 : Nat) : Int) := by
 have e : IntKind.u64.wrap ((i : Int) + (j : Int)) = ((i + j : Nat) : Int) := by
  rw [IntKind.wrap_u64]
  have : ((i : Int) + (j : Int)) = ((i + j : Nat) : Int) := by omega
  rw [this, Int.emod_eq_of_lt (by omega) (by omega)]
 rw [e]
 unfold shrI
 have : (2 : Int) ^ min (1 : Int).toNat (IntKind.u64.bits) = 2 := by decide
 rw [this, Int.fdiv_eq_ediv_of_nonneg _ (by omega)]
 omega
set_option maxHeartbeats 8000000 in
theorem Qx (s : Src) (n : Bs) (hs : s.Pairwise fun g k => Op.bytesLess g.1 k.1 = true) (hl : s.length ≤ 1000000) :
  PCall Tryz.prog 178 [dGms s, dS n, dFn 179] fun r => r = .tup [dI (cntG s n), dB (gemV s n).isSome] := by 
 refine qw Tryz.func178 rfl rfl Tryz.ntmps178 (rs := [.tmp 6, .tmp 7]) (tys := [3, 4]) rfl rfl (by simp) ?_
 have hsp := @cnt_split s n hs
 have hcl := cnt_le s n
 have hfd := @cnt_find s n hs
 generalize cntG s n = c at *
 generalize gemV s n = gq at *
 (refine qc fun Y Yh=>?_;simp[go_sem];apply Yh;clear Yh Y;apply Xi)
 (refine qc fun Y Yh=>?_;simp[go_sem];apply Yh;clear Yh Y;apply Xi)
 (refine qc fun Y Yh=>?_;simp[go_sem];apply Yh;clear Yh Y;apply Xi)
 refine qf fun K1 hK1 => ?_
 refine qj ?_
 refine qx (σ := Nat × Nat) (fun x => ⟨[(0, dGms s), (1, dS n), (2, dFn 179), (8, dI s.length), (9, dI x.1), (10, dI x.2)], []⟩) (fun x => x.1 ≤ c ∧ c ≤ x.2 ∧ x.2 ≤ s.length) (fun x => x.2 - x.1) (0, s.length) ?_ ?_ ?_
 ·(refine ql ?_ ?_ <;> simp[go_sem])
 ·exact ⟨by omega, by omega, by simp⟩
 rintro ⟨i, j⟩ ⟨h1, h2, h3⟩
 simp only at h1 h2 h3
 refine qf fun K2 hK2 => ?_
 (refine qc fun Y Yh=>?_;simp[go_sem];apply Yh;clear Yh Y;apply Xi)
 (refine qg fun T F hT hF=>?_;simp[go_sem];refine BR.intro (fun h4=>hT ?_) (fun h4=>hF ?_);all_goals clear hT hF T F;try simp at h4)
 ·refine qh ?_
  refine hK2 _ ?_; clear hK2
  have hh := half i j (by omega)
  obtain ⟨g, hg⟩ : ∃ g, s[(i + j) / 2]? = some g := ⟨_, List.getElem?_eq_getElem (by omega)⟩
  have C1 := wS g n
  have hc1 := hsp _ g hg
  rw [← scmp_neg] at hc1
  generalize scmpV g.1 n = sv at *
  have hm1 : i ≤ (i + j) / 2 := by omega
  have hm2 : (i + j) / 2 < j := by omega
  generalize (i + j) / 2 = m at *
  refine qj ?_
  (refine qc fun Y Yh=>?_;simp[go_sem, hh];((repeat' (first|apply And.intro|(apply Yh;clear Yh Y)));all_goals first|apply Xi|omega))
  (refine qc fun Y Yh=>?_;simp[go_sem, hg])
  ((try refine Xj ?_);refine qm (.inl ⟨rfl,rfl⟩) (by simp[go_sem]) ?_;intro args ha;simp[go_sem] at ha;subst ha;refine ⟨_, C1, ?_⟩;rintro _ rfl;simp[go_sem];apply Yh;clear Yh Y;apply Xi)
  (refine qg fun T F hT hF=>?_;simp[go_sem];refine BR.intro (fun h5=>hT ?_) (fun h5=>hF ?_);all_goals clear hT hF T F;try simp at h5)
  ·(refine qB fun Y Yh=>?_;simp[go_sem];((repeat' (first|apply And.intro|(apply Yh;clear Yh Y)));all_goals first|apply Xi|omega))
   refine ⟨(m + 1, j), ?_, ⟨by simp only; omega, by simp only; omega, by simp only; omega⟩, by simp only; omega⟩
   (refine ql ?_ ?_ <;> simp[go_sem])
  ·(refine qB fun Y Yh=>?_;simp[go_sem];apply Yh;clear Yh Y;apply Xi)
   refine ⟨(i, m), ?_, ⟨by simp only; omega, by simp only; omega, by simp only; omega⟩, by simp only; omega⟩
   (refine ql ?_ ?_ <;> simp[go_sem])
 ·refine qp ?_
  simp only [go_sem]
  refine hK1 _ ?_; clear hK1
  have e1 : i = c := by omega
  have e2 : j = c := by omega
  subst e1
  subst e2
  by_cases hlt : j < s.length
  ·obtain ⟨g, hg⟩ : ∃ g, s[j]? = some g := ⟨_, List.getElem?_eq_getElem (by omega)⟩
   have C1 := wS g n
   rw [hg] at hfd
   simp only at hfd
   have hz := @scmp_zero g.1 n
   generalize scmpV g.1 n = sv at *
   have hgi : gq.isSome = decide (sv = 0) := by
    rw [hfd]
    by_cases q : g.1 = n
    ·rw [if_pos q]; simp [hz.2 q]
    ·rw [if_neg q]; have : ¬ sv = 0 := fun e => q (hz.1 e)
     simp [this]
   have hlt' : (j : Int) < (s.length : Int) := by omega
   (refine qc fun Y Yh=>?_;simp[go_sem, hg, hlt'];((repeat' (refine qH ?_;simp[go_sem, hg, hlt']))))
   (refine qX (dI sv) (.inl ⟨rfl,rfl⟩) ?_ rfl ?_;(intro hc args ha;simp[go_sem] at ha;subst ha;exact C1);simp[go_sem];refine qH ?_;simp[go_sem];apply Yh;clear Yh Y;apply Xi)
   (refine qi ?_;simp[go_sem, hgi])
  ·have : s[j]? = none := List.getElem?_eq_none (by omega)
   rw [this] at hfd
   simp only at hfd
   have hlt' : ¬ (j : Int) < (s.length : Int) := by omega
   (refine qc fun Y Yh=>?_;simp[go_sem, hlt'];((repeat' (first|(refine qG ?_ ?_ ?_;(focus (simp[go_sem, undef, hlt'];done));(focus (simp[go_sem];done));simp[go_sem, hlt'])|(apply Yh;clear Yh Y)));all_goals apply Xi))
   (refine qi ?_;simp[go_sem, hfd])
theorem Z4 (s : Src) (n : Bs) (hs : suV s = true) : PCall Tryz.prog 129 [dSrc s, dS n] fun r => r = .tup [dGm ((gemV s n).getD ([], [])), dB (gemV s n).isSome] := by 
 refine qw Tryz.func129 rfl rfl Tryz.ntmps129 (rs := [.cell 4 119, .tmp 5]) (tys := [119, 4]) rfl rfl (by simp) ?_
 have ha := jZ hs
 have h15 := (qW hs).1
 have B := Qx s n ha (by omega)
 have hfd := @cnt_find s n ha
 have hcl := cnt_le s n
 generalize cntG s n = c at *
 generalize gemV s n = gq at *
 (refine qc fun Y Yh=>?_;simp[go_sem];intro _;intro _;apply Yh;clear Yh Y;apply Xi)
 refine qA 2 rfl rfl ?_
 simp only [go_sem]
 (refine qc fun Y Yh=>?_;simp[go_sem])
 ((try refine Xj ?_);refine qm (.inl ⟨rfl,rfl⟩) (by simp[go_sem]) ?_;intro args ha;simp[go_sem] at ha;subst ha;refine ⟨_, B, ?_⟩;rintro _ rfl;simp[go_sem];apply Yh;clear Yh Y;apply Xi)
 refine qf fun K1 hK1 => ?_
 (refine qc fun Y Yh=>?_;simp[go_sem];apply Yh;clear Yh Y;apply Xi)
 cases gq with
 | none =>
  (refine qg fun T F hT hF=>?_;simp[go_sem];refine hT ?_;clear hT hF T F)
  (refine qc fun Y Yh=>?_;simp[go_sem];apply Yh;clear Yh Y;apply Xi)
  (refine qi ?_;simp[go_sem])
 | some g =>
  (refine qg fun T F hT hF=>?_;simp[go_sem];refine hF ?_;clear hT hF T F)
  refine qh ?_
  refine hK1 _ ?_; clear hK1
  obtain ⟨k, hk⟩ : ∃ k, s[c]? = some k := by
   cases h : s[c]? with
   | none => rw [h] at hfd; cases hfd
   | some k => exact ⟨k, rfl⟩
  have : k = g := by
   rw [hk] at hfd
   simp only at hfd
   split at hfd
   ·exact (Option.some.inj hfd).symm
   ·cases hfd
  subst this
  (refine qc fun Y Yh=>?_;simp[go_sem, hk];apply Yh;clear Yh Y;apply Xi)
  (refine qi ?_;simp[go_sem])
/-! the solver: its box (900002), what is chosen (900003) -/
def mSn (m : List (Bs × Bs)) : List (Value × D) := m.map fun p => (.string ⟨p.1.toArray⟩, dS p.2)
@[go_sem] theorem mfind_mSn (r : Bs) : ∀ m : List (Bs × Bs), mfind 1 (.string ⟨r.toArray⟩) (mSn m) = some ((slook m r).map dS)
 | [] => rfl
 | (k, v) :: m => by
  have ih := mfind_mSn r m
  unfold mSn at ih ⊢
  simp only [List.map_cons, mfind, keyEq, beq_bs2, slook]
  by_cases h : r = k
  ·simp [h]
  ·have hb : (r == k) = false := by simp [h]
   simp [h, ih, hb]
@[go_sem] theorem mput_mSn (d v : Bs) : ∀ m : List (Bs × Bs), mput 1 (.string ⟨d.toArray⟩) (.v (.string ⟨v.toArray⟩)) (mSn m) = mSn (sput d v m)
 | [] => rfl
 | (k, w) :: m => by
  have ih := mput_mSn d v m
  unfold mSn at ih ⊢
  simp only [List.map_cons, mput, keyEq, beq_bs2, sput]
  by_cases h : d = k
  ·simp [h]
  ·have hb : (d == k) = false := by simp [h]
   simp [h, ih, hb]
@[go_sem] theorem mdel_mS (d : Bs) : ∀ m : List (Bs × Bs), mdel 1 (.string ⟨d.toArray⟩) (mSn m) = mSn (sdel d m)
 | [] => rfl
 | (k, w) :: m => by
  have ih := mdel_mS d m
  unfold mSn at ih ⊢
  simp only [List.map_cons, mdel, keyEq, beq_bs2, sdel]
  by_cases h : d = k
  ·simp [h]
  ·have hb : (d == k) = false := by simp [h]
   simp [h, ih, hb]
abbrev bXn (s : Src) (bud t : Int) (full : Bool) (N : List Prs) (gm : Nat) : Blk := .box [dGms s, dI bud, dI t, dB full, dPs N, .own 900003 gm]
abbrev hX (gb gm : Nat) (s : Src) (bud t : Int) (full : Bool) (N l : List Prs) : List (Nat × (Nat × Blk)) := [(900002, (gb, bXn s bud t full N gm)), (900003, (gm, .map (mSn l)))]
theorem hX_ok (gb gm : Nat) (s : Src) (bud t : Int) (full : Bool) (N l : List Prs) : ∀ p ∈ hX gb gm s bud t full N l, 900000 ≤ p.1 ∧ zn p.2.2 = true ∧ p.1 ∈ [900002, 900003] := by
 intro p hp
 simp only [hX, List.mem_cons, List.not_mem_nil, or_false] at hp
 rcases hp with rfl | rfl <;> simp [zn]
theorem Jh (l : List Prs) : PCall Tryz.prog 151 [dPs l] fun r => r = .slc 2 (l.map cP) := by 
 refine qw Tryz.func151 rfl rfl Tryz.ntmps151 (rs := [.tmp 2]) (tys := [38]) rfl rfl (by simp) ?_
 (refine qc fun Y Yh=>?_;simp[go_sem];apply Yh;clear Yh Y;apply Xi)
 (refine qc fun Y Yh=>?_;simp[go_sem];apply Yh;clear Yh Y;apply Xi)
 (refine qi ?_;simp[go_sem])
set_option maxHeartbeats 8000000 in
theorem J8 (gb gm : Nat) (s : Src) (bud t : Int) (full : Bool) (N l : List Prs) (hN : N.length ≤ 1000000000) :
  ACall Tryz.prog 147 [.ptr 900002 gb 0] (hX gb gm s bud t full N l) [900002, 900003] fun ps r => ps = [(gb, bXn s bud t full N gm), (gm, .map (mSn l))] ∧ r = dS (nextV N l) := by 
 refine zg Tryz.func147 rfl rfl Tryz.ntmps147 (rs := [.tmp 2]) (tys := [9]) rfl rfl (by simp) ?_ ?_
 ·exact hX_ok gb gm s bud t full N l
 have hst := fun i n => @next_step N l i n
 have hz : N.find? (fun n => (slook l n.1).isNone) = (N.drop 0).find? (fun n => (slook l n.1).isNone) := rfl
 have he : (N.drop N.length).find? (fun n => (slook l n.1).isNone) = none := by rw [List.drop_length]; rfl
 unfold nextV
 rw [hz]
 obtain ⟨F, hF⟩ : ∃ F : Nat → Option Prs, ∀ i, (N.drop i).find? (fun n => (slook l n.1).isNone) = F i := ⟨_, fun _ => rfl⟩
 simp only [hF] at hst he ⊢
 clear hF hz
 (refine qc fun Y Yh=>?_;simp[go_sem];apply Yh;clear Yh Y;apply Xi)
 refine qf fun K1 hK1 => ?_
 (refine qc fun Y Yh=>?_;simp[go_sem];apply Yh;clear Yh Y;apply Xi)
 refine qj ?_
 refine qx (σ := Nat) (fun i => ⟨[(0, .ptr 900002 gb 0), (10, dPs N), (11, dI N.length), (12, dI i)], hX gb gm s bud t full N l⟩) (fun i => i ≤ N.length ∧ F 0 = F i) (fun i => N.length - i) 0 ?_ ?_ ?_
 ·(refine ql ?_ ?_ <;> simp[go_sem])
 ·exact ⟨by omega, rfl⟩
 rintro i ⟨hi, hf⟩
 (refine qc fun Y Yh=>?_;simp[go_sem];apply Yh;clear Yh Y;apply Xi)
 refine qf fun K2 hK2 => ?_
 (refine qg fun T F hT hF=>?_;simp[go_sem];refine BR.intro (fun h3=>hT ?_) (fun h3=>hF ?_);all_goals clear hT hF T F;try simp at h3)
 ·refine qh ?_
  refine hK2 _ ?_; clear hK2
  obtain ⟨n, hn⟩ : ∃ n, N[i]? = some n := ⟨_, List.getElem?_eq_getElem (by omega)⟩
  have hst1 := hst i n hn
  refine qf fun K4 hK4 => ?_
  refine qj ?_
  (refine qc fun Y Yh=>?_;simp[go_sem, hn];intro _;apply Yh;clear Yh Y;apply Xi)
  cases hq : slook l n.1 with
  | none =>
   rw [if_pos hq] at hst1
   ((refine qE (.qs [0, 1, 2, 4, 3, 5, 6, 7, 8, 9, 10, 11] (.nil)) (by kernel_rfl) ?_ ?_ ?_ ?_);kernel_rfl;exact (by decide +kernel);kernel_rfl;intro Y Yh;((repeat' (first|refine qy ?_|(refine qo fun Y Yh=>?_;simp[go_sem, hq])|(apply Yh;clear Yh Y)));all_goals apply Xi))
   (refine qc fun Y Yh=>?_;simp[go_sem];apply Yh;clear Yh Y;apply Xi)
   (refine qg fun T F hT hF=>?_;simp[go_sem];refine hT ?_;clear hT hF T F)
   (refine qc fun Y Yh=>?_;simp[go_sem];apply Yh;clear Yh Y;apply Xi)
   (refine qi ?_;simp[go_sem, hf, hst1])
  | some v =>
   rw [if_neg (by rw [hq]; simp)] at hst1
   ((refine qE (.qs [0, 1, 2, 4, 3, 5, 6, 7, 8, 9, 10, 11] (.nil)) (by kernel_rfl) ?_ ?_ ?_ ?_);kernel_rfl;exact (by decide +kernel);kernel_rfl;intro Y Yh;((repeat' (first|refine qy ?_|(refine qo fun Y Yh=>?_;simp[go_sem, hq])|(apply Yh;clear Yh Y)));all_goals apply Xi))
   (refine qc fun Y Yh=>?_;simp[go_sem];apply Yh;clear Yh Y;apply Xi)
   (refine qg fun T F hT hF=>?_;simp[go_sem];refine hF ?_;clear hT hF T F)
   refine qh ?_
   refine hK4 _ ?_; clear hK4
   (refine qB fun Y Yh=>?_;simp[go_sem];((repeat' (first|apply And.intro|(apply Yh;clear Yh Y)));all_goals first|apply Xi|omega))
   refine ⟨i + 1, ?_, ⟨by omega, hf.trans hst1⟩, by omega⟩
   (refine ql ?_ ?_ <;> simp[go_sem])
 ·refine qp ?_
  simp only [go_sem]
  refine hK1 _ ?_; clear hK1
  have : i = N.length := by omega
  subst this
  (refine qc fun Y Yh=>?_;simp[go_sem];apply Yh;clear Yh Y;apply Xi)
  (refine qi ?_;simp[go_sem, hf, he])
set_option maxHeartbeats 8000000 in
theorem Jd (gb gm : Nat) (s : Src) (bud t : Int) (full : Bool) (N l : List Prs) (gem : Bs) (v : Vrs) (hN : SzN N ∨ (N.length ≤ 1001000000 ∧ ∀ x ∈ N, Sz1 x)) (hl : ∀ x ∈ l, Sz1 x) (hno : NumOk l) (hg : pkdV l gem = []) (hv : SzV v) (hv0 : v.1 ≠ []) :
  ACall Tryz.prog 150 [.ptr 900002 gb 0, dS gem, dVr v] (hX gb gm s bud t full N l) [900002, 900003] fun ps r => ps = [(gb, bXn s bud t full N gm), (gm, .map (mSn l))] ∧ r = dB (fitV N l gem v) := by 
 refine zg Tryz.func150 rfl rfl Tryz.ntmps150 (rs := [.tmp 6]) (tys := [4]) rfl rfl (by simp) ?_ ?_
 ·exact hX_ok gb gm s bud t full N l
 obtain ⟨hNl, hN1⟩ : N.length ≤ 1001000000 ∧ ∀ x ∈ N, Sz1 x := by
  rcases hN with h | h
  ·exact ⟨by have := h.1; omega, h.2⟩
  ·exact h
 obtain ⟨num, W⟩ := v
 obtain ⟨hv1, hW, hW1⟩ := hv
 simp only at hv1 hW hW1 hv0
 have hbf := fun n => @bFit_eq l hno gem num hg hv0 n
 have hA := fun i x h => @all_take Prs (aFit gem num) N i x h
 have hB := fun i x h => @all_take Prs (bFit (l ++ [(gem, num)])) W i x h
 have hAe : (N.take N.length).all (aFit gem num) = N.all (aFit gem num) := by rw [List.take_length]
 have hBe : (W.take W.length).all (bFit (l ++ [(gem, num)])) = W.all (bFit (l ++ [(gem, num)])) := by rw [List.take_length]
 have hAb : ∀ i x, N[i]? = some x → aFit gem num x = false → N.all (aFit gem num) = false := fun i x h h2 => by
  rw [List.all_eq_false]; exact ⟨x, List.mem_of_getElem? h, by simp [h2]⟩
 have hBb : ∀ i x, W[i]? = some x → bFit (l ++ [(gem, num)]) x = false → W.all (bFit (l ++ [(gem, num)])) = false := fun i x h h2 => by
  rw [List.all_eq_false]; exact ⟨x, List.mem_of_getElem? h, by simp [h2]⟩
 have hA0 : (N.take 0).all (aFit gem num) = true := rfl
 have hB0 : (W.take 0).all (bFit (l ++ [(gem, num)])) = true := rfl
 unfold fitV
 simp only
 generalize hAB : N.all (aFit gem num) = aN at *
 generalize hBB : W.all (bFit (l ++ [(gem, num)])) = bW at *
 obtain ⟨FA, hFA⟩ : ∃ F : Nat → Bool, ∀ i, (N.take i).all (aFit gem num) = F i := ⟨_, fun _ => rfl⟩
 obtain ⟨FB, hFB⟩ : ∃ F : Nat → Bool, ∀ i, (W.take i).all (bFit (l ++ [(gem, num)])) = F i := ⟨_, fun _ => rfl⟩
 simp only [hFA] at hA hAe hA0
 simp only [hFB] at hB hBe hB0
 clear hFA hFB hAB hBB
 (refine qc fun Y Yh=>?_;simp[go_sem];intro _;apply Yh;clear Yh Y;apply Xi)
 refine qA 5 rfl rfl ?_
 simp only [go_sem]
 refine qf fun K1 hK1 => ?_
 (refine qc fun Y Yh=>?_;simp[go_sem];apply Yh;clear Yh Y;apply Xi)
 refine qj ?_
 refine qx (σ := Nat) (fun i => ⟨[(0, .ptr 900002 gb 0), (1, dS gem), (5, .rd [dS num, dPs W]), (16, dPs N), (17, dI N.length), (18, dI i)], hX gb gm s bud t full N l⟩) (fun i => i ≤ N.length ∧ FA i = true) (fun i => N.length - i) 0 ?_ ?_ ?_
 ·(refine ql ?_ ?_ <;> simp[go_sem])
 ·exact ⟨by omega, hA0⟩
 rintro i ⟨hi, hf⟩
 (refine qc fun Y Yh=>?_;simp[go_sem];apply Yh;clear Yh Y;apply Xi)
 refine qf fun K2 hK2 => ?_
 (refine qg fun T F hT hF=>?_;simp[go_sem];refine BR.intro (fun h3=>hT ?_) (fun h3=>hF ?_);all_goals clear hT hF T F;try simp at h3)
 ·refine qh ?_
  refine hK2 _ ?_; clear hK2
  obtain ⟨n, hn⟩ : ∃ n, N[i]? = some n := ⟨_, List.getElem?_eq_getElem (by omega)⟩
  obtain ⟨_, hn2⟩ := hN1 n (List.mem_of_getElem? hn)
  have hA1 := hA i n hn
  have hAb1 := hAb i n hn
  have M := jc num n.2 hv1 hn2
  have ha : aFit gem num n = (decide (n.1 ≠ gem) || meetsP num n.2) := rfl
  rw [ha] at hA1 hAb1
  generalize meetsP num n.2 = mb at *
  refine qf fun K4 hK4 => ?_
  refine qj ?_
  (refine qc fun Y Yh=>?_;simp[go_sem, hn];intro _;apply Yh;clear Yh Y;apply Xi)
  by_cases hg2 : n.1 = gem
  ·(refine qc fun Y Yh=>?_;simp[go_sem, hg2];((repeat' (refine qH ?_;simp[go_sem, hg2]))))
   (refine qX (dB mb) (.inl ⟨rfl,rfl⟩) ?_ rfl ?_;(intro hc args ha;simp[go_sem] at ha;subst ha;exact M);simp[go_sem];refine qH ?_;simp[go_sem];apply Yh;clear Yh Y;apply Xi)
   cases mb with
   | false =>
    have hF := hAb1 (by simp [hg2])
    (refine qg fun T F hT hF=>?_;simp[go_sem];refine hT ?_;clear hT hF T F)
    (refine qc fun Y Yh=>?_;simp[go_sem];apply Yh;clear Yh Y;apply Xi)
    (refine qi ?_;simp[go_sem, hF])
   | true =>
    (refine qg fun T F hT hF=>?_;simp[go_sem];refine hF ?_;clear hT hF T F)
    refine qh ?_
    refine hK4 _ ?_; clear hK4
    (refine qB fun Y Yh=>?_;simp[go_sem];((repeat' (first|apply And.intro|(apply Yh;clear Yh Y)));all_goals first|apply Xi|omega))
    refine ⟨i + 1, ?_, ⟨by omega, by rw [hA1, hf]; simp⟩, by omega⟩
    (refine ql ?_ ?_ <;> simp[go_sem])
  ·(refine qc fun Y Yh=>?_;simp[go_sem, hg2];((repeat' (first|(refine qG ?_ ?_ ?_;(focus (simp[go_sem, undef, hg2];done));(focus (simp[go_sem];done));simp[go_sem, hg2])|(apply Yh;clear Yh Y)));all_goals apply Xi))
   (refine qg fun T F hT hF=>?_;simp[go_sem];refine hF ?_;clear hT hF T F)
   refine qh ?_
   refine hK4 _ ?_; clear hK4
   (refine qB fun Y Yh=>?_;simp[go_sem];((repeat' (first|apply And.intro|(apply Yh;clear Yh Y)));all_goals first|apply Xi|omega))
   refine ⟨i + 1, ?_, ⟨by omega, by rw [hA1, hf]; simp [hg2]⟩, by omega⟩
   (refine ql ?_ ?_ <;> simp[go_sem])
 ·refine qp ?_
  simp only [go_sem]
  refine hK1 _ ?_; clear hK1
  have : i = N.length := by omega
  subst this
  rw [hAe] at hf
  subst hf
  refine qf fun K5 hK5 => ?_
  (refine qc fun Y Yh=>?_;simp[go_sem];apply Yh;clear Yh Y;apply Xi)
  refine qj ?_
  refine qx (σ := Nat) (fun i => ⟨[(0, .ptr 900002 gb 0), (1, dS gem), (5, .rd [dS num, dPs W]), (36, dPs W), (37, dI W.length), (38, dI i)], hX gb gm s bud t full N l⟩) (fun i => i ≤ W.length ∧ FB i = true) (fun i => W.length - i) 0 ?_ ?_ ?_
  ·(refine ql ?_ ?_ <;> simp[go_sem])
  ·exact ⟨by omega, hB0⟩
  rintro i ⟨hi, hf⟩
  (refine qc fun Y Yh=>?_;simp[go_sem];apply Yh;clear Yh Y;apply Xi)
  refine qf fun K6 hK6 => ?_
  (refine qg fun T F hT hF=>?_;simp[go_sem];refine BR.intro (fun h7=>hT ?_) (fun h7=>hF ?_);all_goals clear hT hF T F;try simp at h7)
  ·refine qh ?_
   refine hK6 _ ?_; clear hK6
   obtain ⟨n, hn⟩ : ∃ n, W[i]? = some n := ⟨_, List.getElem?_eq_getElem (by omega)⟩
   obtain ⟨_, hn2⟩ := hW1 n (List.mem_of_getElem? hn)
   have hB1 := hB i n hn
   have hBb1 := hBb i n hn
   rw [hbf n] at hB1 hBb1
   refine qf fun K8 hK8 => ?_
   refine qj ?_
   (refine qc fun Y Yh=>?_;simp[go_sem, hn];intro _;apply Yh;clear Yh Y;apply Xi)
   by_cases hg2 : n.1 = gem
   ·have hq : slook l n.1 = none := by rw [hg2]; exact (slook_none hno).2 hg
    have M := jc num n.2 hv1 hn2
    have ho : oneN l gem num n = some num := by unfold oneN; rw [if_pos hg2]
    rw [ho] at hB1 hBb1
    simp only at hB1 hBb1
    generalize meetsP num n.2 = mb at *
    ((refine qE (.qs [0, 1, 2, 4, 3, 5, 6, 7, 8, 9, 10, 11] (.nil)) (by kernel_rfl) ?_ ?_ ?_ ?_);kernel_rfl;exact (by decide +kernel);kernel_rfl;intro Y Yh;((repeat' (first|refine qy ?_|(refine qo fun Y Yh=>?_;simp[go_sem, hq])|(apply Yh;clear Yh Y)));all_goals apply Xi))
    refine qf fun K9 hK9 => ?_
    (refine qc fun Y Yh=>?_;simp[go_sem];apply Yh;clear Yh Y;apply Xi)
    (refine qg fun T F hT hF=>?_;simp[go_sem, hg2];refine hT ?_;clear hT hF T F)
    (refine qB fun Y Yh=>?_;simp[go_sem];apply Yh;clear Yh Y;apply Xi)
    refine hK9 _ ?_; clear hK9
    (refine qc fun Y Yh=>?_;simp[go_sem];((repeat' (refine qH ?_;simp[go_sem]))))
    (refine qX (dB mb) (.inl ⟨rfl,rfl⟩) ?_ rfl ?_;(intro hc args ha;simp[go_sem] at ha;subst ha;exact M);simp[go_sem];refine qH ?_;simp[go_sem];apply Yh;clear Yh Y;apply Xi)
    cases mb with
    | false =>
     have hF := hBb1 rfl
     (refine qg fun T F hT hF=>?_;simp[go_sem];refine hT ?_;clear hT hF T F)
     (refine qc fun Y Yh=>?_;simp[go_sem];apply Yh;clear Yh Y;apply Xi)
     (refine qi ?_;simp[go_sem, hF])
    | true =>
     (refine qg fun T F hT hF=>?_;simp[go_sem];refine hF ?_;clear hT hF T F)
     refine qh ?_
     refine hK8 _ ?_; clear hK8
     (refine qB fun Y Yh=>?_;simp[go_sem];((repeat' (first|apply And.intro|(apply Yh;clear Yh Y)));all_goals first|apply Xi|omega))
     refine ⟨i + 1, ?_, ⟨by omega, by rw [hB1, hf]; simp⟩, by omega⟩
     (refine ql ?_ ?_ <;> simp[go_sem])
   ·have hgb : (n.1 == gem) = false := by simp [hg2]
    cases hq : slook l n.1 with
    | none =>
     have ho : oneN l gem num n = none := by unfold oneN; rw [if_neg hg2]; exact hq
     rw [ho] at hB1 hBb1
     simp only at hB1 hBb1
     ((refine qE (.qs [0, 1, 2, 4, 3, 5, 6, 7, 8, 9, 10, 11] (.nil)) (by kernel_rfl) ?_ ?_ ?_ ?_);kernel_rfl;exact (by decide +kernel);kernel_rfl;intro Y Yh;((repeat' (first|refine qy ?_|(refine qo fun Y Yh=>?_;simp[go_sem, hq])|(apply Yh;clear Yh Y)));all_goals apply Xi))
     refine qf fun K9 hK9 => ?_
     (refine qc fun Y Yh=>?_;simp[go_sem];apply Yh;clear Yh Y;apply Xi)
     (refine qg fun T F hT hF=>?_;simp[go_sem, hgb];refine hF ?_;clear hT hF T F)
     refine qh ?_
     refine hK9 _ ?_; clear hK9
     (refine qc fun Y Yh=>?_;simp[go_sem];((repeat' (first|(refine qG ?_ ?_ ?_;(focus (simp[go_sem, undef];done));(focus (simp[go_sem];done));simp[go_sem])|(apply Yh;clear Yh Y)));all_goals apply Xi))
     (refine qg fun T F hT hF=>?_;simp[go_sem];refine hF ?_;clear hT hF T F)
     refine qh ?_
     refine hK8 _ ?_; clear hK8
     (refine qB fun Y Yh=>?_;simp[go_sem];((repeat' (first|apply And.intro|(apply Yh;clear Yh Y)));all_goals first|apply Xi|omega))
     refine ⟨i + 1, ?_, ⟨by omega, by rw [hB1, hf]; simp⟩, by omega⟩
     (refine ql ?_ ?_ <;> simp[go_sem])
    | some o =>
     have M := jc o n.2 (hl _ (slook_some_mem hq)).2 hn2
     have ho : oneN l gem num n = some o := by unfold oneN; rw [if_neg hg2]; exact hq
     rw [ho] at hB1 hBb1
     simp only at hB1 hBb1
     generalize meetsP o n.2 = mb at *
     ((refine qE (.qs [0, 1, 2, 4, 3, 5, 6, 7, 8, 9, 10, 11] (.nil)) (by kernel_rfl) ?_ ?_ ?_ ?_);kernel_rfl;exact (by decide +kernel);kernel_rfl;intro Y Yh;((repeat' (first|refine qy ?_|(refine qo fun Y Yh=>?_;simp[go_sem, hq])|(apply Yh;clear Yh Y)));all_goals apply Xi))
     refine qf fun K9 hK9 => ?_
     (refine qc fun Y Yh=>?_;simp[go_sem];apply Yh;clear Yh Y;apply Xi)
     (refine qg fun T F hT hF=>?_;simp[go_sem, hgb];refine hF ?_;clear hT hF T F)
     refine qh ?_
     refine hK9 _ ?_; clear hK9
     (refine qc fun Y Yh=>?_;simp[go_sem];((repeat' (refine qH ?_;simp[go_sem]))))
     (refine qX (dB mb) (.inl ⟨rfl,rfl⟩) ?_ rfl ?_;(intro hc args ha;simp[go_sem] at ha;subst ha;exact M);simp[go_sem];refine qH ?_;simp[go_sem];apply Yh;clear Yh Y;apply Xi)
     cases mb with
     | false =>
      have hF := hBb1 rfl
      (refine qg fun T F hT hF=>?_;simp[go_sem];refine hT ?_;clear hT hF T F)
      (refine qc fun Y Yh=>?_;simp[go_sem];apply Yh;clear Yh Y;apply Xi)
      (refine qi ?_;simp[go_sem, hF])
     | true =>
      (refine qg fun T F hT hF=>?_;simp[go_sem];refine hF ?_;clear hT hF T F)
      refine qh ?_
      refine hK8 _ ?_; clear hK8
      (refine qB fun Y Yh=>?_;simp[go_sem];((repeat' (first|apply And.intro|(apply Yh;clear Yh Y)));all_goals first|apply Xi|omega))
      refine ⟨i + 1, ?_, ⟨by omega, by rw [hB1, hf]; simp⟩, by omega⟩
      (refine ql ?_ ?_ <;> simp[go_sem])
  ·refine qp ?_
   simp only [go_sem]
   refine hK5 _ ?_; clear hK5
   have : i = W.length := by omega
   subst this
   rw [hBe] at hf
   subst hf
   (refine qc fun Y Yh=>?_;simp[go_sem];apply Yh;clear Yh Y;apply Xi)
   (refine qi ?_;simp[go_sem])
def ltF {α : Type} (c : α → α → Int) (x y : α) : Bool := decide (c x y < 0)
set_option maxHeartbeats 8000000 in
theorem vs_ins {A X B m : List Vrs} {pa pb : Int} (f g : Nat) (c : Vrs → Vrs → Int) (w : Weakly (ltF c)) (hc : ∀ x ∈ X, ∀ y ∈ X, PCall Tryz.prog f [dVr x, dVr y] fun r => r = dI (c x y))
  (hm : m = A ++ (X ++ B)) (ha : pa = A.length) (hb : pb = A.length + X.length) (hl : m.length ≤ 4611686018427387904) :
  ACall Tryz.prog 222 [.own 900010 g, dI pa, dI pb, dFn f] [(900010, (g, .row 116 2 (m.map cVr)))] [900010] fun ps r => ps = [(g, .row 116 2 ((A ++ (sortL (ltF c) X ++ B)).map cVr))] ∧ r = .tup [] := by  
 refine zg Tryz.func222 rfl rfl Tryz.ntmps222 (rs := []) (tys := []) rfl rfl (by simp) ?_ ?_
 ·intro p hp
  simp only [List.mem_cons, List.mem_nil_iff, or_false] at hp
  subst hp; simp [zn]
 subst ha hb
 have hml : m.length = A.length + (X.length + B.length) := by rw [hm]; simp
 (refine qc fun Y Yh=>?_;simp[go_sem];((repeat' (first|apply And.intro|(apply Yh;clear Yh Y)));all_goals first|apply Xi|omega))
 refine qj ?_
 refine qx (σ := Nat × List Vrs) (fun x => ⟨[(0, .own 900010 g), (1, dI A.length), (2, dI (A.length + X.length)), (3, dFn f), (8, dI (A.length + x.1))], [(900010, (g, .row 116 2 (x.2.map cVr)))]⟩)
  (fun x => 1 ≤ x.1 ∧ (x.1 ≤ X.length ∨ x.1 = 1) ∧ x.2 = A ++ (sortL (ltF c) (X.take x.1) ++ (X.drop x.1 ++ B))) (fun x => X.length + 1 - x.1) (1, m) ?_ ?_ ?_
 ·(refine ql ?_ ?_ <;> simp[go_sem])
 ·refine ⟨by omega, by omega, ?_⟩
  rw [hm]
  cases X with
  | nil => simp [sortL]
  | cons x r => simp [sortL, zf]
 rintro ⟨p, k⟩ ⟨hp, hp2, hk⟩
 simp only at hp hp2 hk
 refine qf fun K1 hK1 => ?_
 (refine qc fun Y Yh=>?_;simp[go_sem];apply Yh;clear Yh Y;apply Xi)
 (refine qg fun T F hT hF=>?_;simp[go_sem];refine BR.intro (fun h2=>hT ?_) (fun h2=>hF ?_);all_goals clear hT hF T F;try simp at h2) 
 ·refine qh ?_
  refine hK1 _ ?_; clear hK1
  have hpl : p < X.length := by omega
  obtain ⟨x, hx⟩ : ∃ x, X[p]? = some x := ⟨_, List.getElem?_eq_getElem hpl⟩
  have hxm := List.mem_of_getElem? hx
  have htk : X.take (p + 1) = X.take p ++ [x] := by rw [List.take_add_one, hx]; rfl
  have hdr : X.drop p = x :: X.drop (p + 1) := by
   rw [List.drop_eq_getElem_cons hpl]
   congr 1
   rw [List.getElem?_eq_getElem hpl] at hx
   exact Option.some.inj hx
  have hSl : (sortL (ltF c) (X.take p)).length = p := by rw [sort_len]; simp; omega
  have hSm : ∀ y ∈ sortL (ltF c) (X.take p), y ∈ X := fun y hy => List.mem_of_mem_take (sort_mem.1 hy)
  have hSs := sort_srt w (X.take p)
  have hsn := sort_snoc w (X.take p) x
  rw [← htk] at hsn
  rw [hdr] at hk
  generalize sortL (ltF c) (X.take p) = S at *
  have hnext : ∀ R : List Vrs, A ++ (sortL (ltF c) (X.take (p + 1)) ++ R) = A ++ (mergeL (ltF c) S [x] ++ R) := fun R => by rw [hsn]
  generalize hR : X.drop (p + 1) ++ B = R at *
  have hkl : A.length + (p + (R.length + 1)) = m.length := by
   have : R.length = X.length - (p + 1) + B.length := by rw [← hR]; simp
   omega
  refine qf fun K3 hK3 => ?_
  have fin : ∀ (S' : St) (S1 S2 k' : List Vrs), S1 ++ S2 = S → (∀ y ∈ S1, ltF c x y = false) → (∀ y ∈ S2, ltF c x y = true) → k' = A ++ (S1 ++ x :: (S2 ++ R)) →
    Cov S' ⟨[(0, .own 900010 g), (1, dI A.length), (2, dI (A.length + X.length)), (3, dFn f), (8, dI (A.length + p))], [(900010, (g, .row 116 2 (k'.map cVr)))]⟩ → K3 S' := fun S' S1 S2 k' e1 e2 e3 e4 hS => by
   refine hK3 _ ?_
   refine qN hS ?_; clear hS
   (refine qB fun Y Yh=>?_;simp[go_sem];((repeat' (first|apply And.intro|(apply Yh;clear Yh Y)));all_goals first|apply Xi|omega))
   refine ⟨(p + 1, k'), ?_, ⟨by simp only; omega, by simp only; omega, ?_⟩, by simp only; omega⟩
   ·(refine ql ?_ ?_ <;> simp[go_sem])
    omega
   ·simp only
    rw [hR, hnext, ← e1, jK w e2 e3, e4]; simp
  clear hK3
  refine qj ?_
  (refine qc fun Y Yh=>?_;simp[go_sem];apply Yh;clear Yh Y;apply Xi)
  refine qj ?_
  refine qx (σ := List Vrs × List Vrs × List Vrs) (fun y => ⟨[(0, .own 900010 g), (1, dI A.length), (2, dI (A.length + X.length)), (3, dFn f), (8, dI (A.length + p)), (9, dI (A.length + y.1.length))], [(900010, (g, .row 116 2 (y.2.2.map cVr)))]⟩)
   (fun y => y.1 ++ y.2.1 = S ∧ (∀ z ∈ y.2.1, ltF c x z = true) ∧ y.2.2 = A ++ (y.1 ++ x :: (y.2.1 ++ R))) (fun y => y.1.length) (S, [], k) ?_ ?_ ?_
  ·(refine ql ?_ ?_ <;> simp[go_sem])
   omega
  ·exact ⟨by simp, by simp, by rw [hk]; simp [← hR]⟩
  rintro ⟨S1, S2, k'⟩ ⟨e1, e3, e4⟩
  simp only at e1 e3 e4
  have hsl : S1.length + S2.length = p := by rw [← hSl, ← e1]; simp
  have hkl' : k'.length = m.length := by rw [e4]; simp; omega
  refine qf fun K4 hK4 => ?_
  rcases List.eq_nil_or_concat S1 with h0 | ⟨S1', y, h0⟩
  ·subst h0
   have hz : ¬ ((A.length : Int) + (([] : List Vrs).length : Int) > A.length) := by simp
   ((refine qE (.qs [0, 1, 2, 3] (.sk 4 (.sk 5 (.sk 6 (.sk 7 (.sk 9 (.sk 10 (.sk 11 (.sk 12 (.sk 8 (.sk 13 (.sk 14 (.sk 15 (.qs [16] (.nil))))))))))))))) (by kernel_rfl) ?_ ?_ ?_ ?_);kernel_rfl;exact (by decide +kernel);kernel_rfl;intro Y Yh;((repeat' (first|refine qy ?_|(refine qo fun Y Yh=>?_;simp[go_sem])|(refine qC fun Y Yh=>?_;simp[go_sem])|(apply Yh;clear Yh Y)));all_goals apply Xi))
   (refine qg fun T F hT hF=>?_;simp[go_sem];refine hF ?_;clear hT hF T F)
   refine qp ?_
   simp only [go_sem]
   refine fin _ [] S2 k' e1 (by simp) e3 e4 ?_
   (refine ql ?_ ?_ <;> simp[go_sem])
  ·rw [List.concat_eq_append] at h0
   subst h0
   have hym : y ∈ X := hSm y (by rw [← e1]; simp)
   have C := hc x hxm y hym
   have el : (S1' ++ [y]).length = S1'.length + 1 := by simp
   have hsl' : S1'.length + 1 + S2.length = p := by rw [← hsl]; simp
   have ek : k' = (A ++ S1') ++ y :: ([] ++ x :: (S2 ++ R)) := by rw [e4]; simp
   have t1 := Jq (P := A ++ S1') (Q := []) (R := S2 ++ R) (x := y) (y := x) (p := A.length + S1'.length) (q := A.length + (S1'.length + 1)) (by simp) (by simp; omega)
   have t2 := Qo (P := A ++ S1') (Q := []) (R := S2 ++ R) (x := y) (y := x) (p := A.length + S1'.length) (q := A.length + (S1'.length + 1)) (by simp) (by simp; omega)
   rw [← ek] at t1 t2
   obtain ⟨ty, tx⟩ := t1
   have i1 : ((A.length : Int) + ((S1'.length : Int) + 1)).toNat = A.length + (S1'.length + 1) := by omega
   have i2 : ((A.length : Int) + ((S1'.length : Int) + 1) - 1).toNat = A.length + S1'.length := by omega
   have tx2 : ((k'.map cVr).set (A.length + (S1'.length + 1)) (cVr y))[A.length + S1'.length]? = some (cVr y) := by rw [List.getElem?_set_ne (by omega)]; simp [ty]
   have hpos : (A.length : Int) < (A.length : Int) + ((S1'.length : Int) + 1) := by omega
   ((refine qE (.qs [0, 1, 2, 3, 4, 5, 6, 7, 9, 10, 11, 12, 8, 13] (.one 14 (.qs [15, 16] (.nil)))) (by kernel_rfl) ?_ ?_ ?_ ?_);kernel_rfl;exact (by decide +kernel);kernel_rfl;intro Y Yh;((repeat' (first|(refine qH ?_;simp[go_sem, i1, i2, tx, ty, hpos])|(refine qo fun Y Yh=>?_;simp[go_sem, i1, i2, tx, ty, hpos])|(refine qC fun Y Yh=>?_;simp[go_sem, i1, i2, tx, ty, hpos])|apply And.intro|(apply Yh;clear Yh Y)));all_goals first|omega|skip))
   (refine qX (dI (c x y)) (.inl ⟨rfl,rfl⟩) ?_ rfl ?_;(intro hc args ha;simp[go_sem] at ha;subst ha;exact C);simp[go_sem];((repeat' (first|refine qy ?_|(refine qo fun Y Yh=>?_;simp[go_sem])|(apply Yh;clear Yh Y)));all_goals apply Xi))
   (refine qg fun T F hT hF=>?_;simp[go_sem];refine BR.intro (fun h5=>hT ?_) (fun h5=>hF ?_);all_goals clear hT hF T F;try simp at h5)
   ·refine qh ?_
    refine hK4 _ ?_; clear hK4
    have hlt : ltF c x y = true := by unfold ltF; simpa using h5
    refine qf fun K6 hK6 => ?_
    refine qj ?_
    ((refine zA (.qs [0, 1, 2, 3, 4, 5, 6, 7, 8, 10, 11, 12, 9, 13, 14] (.one 15 (.qs [16] (.one 17 (.nil))))) (by kernel_rfl) ?_ ?_ ?_ ?_);kernel_rfl;exact (by decide +kernel);kernel_rfl;intro Y Yh;((repeat' (first|refine qy ?_|(refine qo fun Y Yh=>?_;simp[go_sem, i1, i2, tx, ty, tx2])|(refine qC fun Y Yh=>?_;simp[go_sem, i1, i2, tx, ty, tx2])|apply And.intro|(apply Yh;clear Yh Y)));all_goals first|apply Xi|omega))
    refine hK6 _ ?_; clear hK6
    (refine qB fun Y Yh=>?_;simp[go_sem];((repeat' (first|apply And.intro|(apply Yh;clear Yh Y)));all_goals first|apply Xi|omega))
    refine ⟨(S1', y :: S2, (k'.set (A.length + (S1'.length + 1)) y).set (A.length + S1'.length) x), ?_, ⟨by rw [← e1]; simp, ?_, ?_⟩, by simp only; simp⟩
    ·(refine ql ?_ ?_ <;> simp[go_sem, List.map_set])
     omega
    ·intro z hz
     rcases List.mem_cons.1 hz with rfl | hz
     ·exact hlt
     ·exact e3 z hz
    ·rw [t2]; simp
   ·have hge : ltF c x y = false := by unfold ltF; simpa using h5
    refine qp ?_
    simp only [go_sem]
    have hs1 : Srt (ltF c) ((S1' ++ [y]) ++ S2) := by rw [e1]; exact hSs
    refine fin _ (S1' ++ [y]) S2 k' e1 (srt_before w (srt_app hs1).1 hge) e3 e4 ?_
    (refine ql ?_ ?_ <;> simp[go_sem])
 ·refine qp ?_
  simp only [go_sem]
  have e1 : sortL (ltF c) (X.take p) = sortL (ltF c) X := by rw [List.take_of_length_le (by omega)]
  have e2 : X.drop p = [] := List.drop_of_length_le (by omega)
  rw [hk, e1, e2]
  simp [go_sem]
theorem vs_pdq {X : List Vrs} {k : Int} (f g : Nat) (c : Vrs → Vrs → Int) (w : Weakly (ltF c)) (hc : ∀ x ∈ X, ∀ y ∈ X, PCall Tryz.prog f [dVr x, dVr y] fun r => r = dI (c x y)) (hl : X.length ≤ 12) :
  ACall Tryz.prog 189 [.own 900010 g, dI 0, dI X.length, dI k, dFn f] [(900010, (g, .row 116 2 (X.map cVr)))] [900010] fun ps r => ps = [(g, .row 116 2 ((sortL (ltF c) X).map cVr))] ∧ r = .tup [] := by
 refine zg Tryz.func189 rfl rfl Tryz.ntmps189 (rs := []) (tys := []) rfl rfl (by simp) ?_ ?_
 ·intro p hp
  simp only [List.mem_cons, List.mem_nil_iff, or_false] at hp
  subst hp; simp [zn]
 have I := @vs_ins [] X [] X 0 X.length f g c w hc (by simp) (by simp) (by simp) (by omega)
 simp only [List.nil_append, List.append_nil] at I
 (refine qc fun Y Yh=>?_;simp[go_sem];apply Yh;clear Yh Y;apply Xi)
 (refine qc fun Y Yh=>?_;simp[go_sem];apply Yh;clear Yh Y;apply Xi)
 refine qj ?_
 refine qx (σ := Unit) (fun _ => ⟨[(0, .own 900010 g), (1, dI 0), (2, dI X.length), (3, dI k), (4, dFn f), (10, dB true), (11, dB true)], [(900010, (g, .row 116 2 (X.map cVr)))]⟩) (fun _ => True) (fun _ => 0) () ?_ ?_ ?_
 ·(refine ql ?_ ?_ <;> simp[go_sem])
 ·trivial
 rintro _ -
 refine qj ?_
 (refine qc fun Y Yh=>?_;simp[go_sem];((repeat' (first|apply And.intro|(apply Yh;clear Yh Y)));all_goals first|apply Xi|omega))
 refine qf fun K2 hK2 => ?_
 (refine qc fun Y Yh=>?_;simp[go_sem];apply Yh;clear Yh Y;apply Xi)
 (refine qg fun T F hT hF=>?_;simp[go_sem];refine BR.intro (fun h3=>hT ?_) (fun h3=>hF ?_);all_goals clear hT hF T F;try simp at h3)
 ·(refine qc fun Y Yh=>?_;simp[go_sem])
  (refine qR [900010] (.inl ⟨rfl,rfl⟩) (by simp[go_sem]) ?_;intro args ha;simp[go_sem] at ha;subst ha;refine ⟨_, _, I, (by simp[go_sem]), ?_⟩;rintro ps r hps ⟨rfl, rfl⟩;simp[go_sem];apply Yh;clear Yh Y;apply Xi)
  (refine qi ?_;simp[go_sem])
 ·exact absurd h3 (by omega)
theorem vs_sort {X : List Vrs} (f g : Nat) (c : Vrs → Vrs → Int) (w : Weakly (ltF c)) (hc : ∀ x ∈ X, ∀ y ∈ X, PCall Tryz.prog f [dVr x, dVr y] fun r => r = dI (c x y)) (hl : X.length ≤ 12) :
  ACall Tryz.prog 148 [.own 900010 g, dFn f] [(900010, (g, .row 116 2 (X.map cVr)))] [900010] fun ps r => ps = [(g, .row 116 2 ((sortL (ltF c) X).map cVr))] ∧ r = .tup [] := by
 refine zg Tryz.func148 rfl rfl Tryz.ntmps148 (rs := []) (tys := []) rfl rfl (by simp) ?_ ?_
 ·intro p hp
  simp only [List.mem_cons, List.mem_nil_iff, or_false] at hp
  subst hp; simp [zn]
 have L := xK X.length (by omega)
 have hw : IntKind.u64.wrap (X.length : Int) = X.length := by rw [IntKind.wrap_u64]; omega
 (refine qc fun Y Yh=>?_;simp[go_sem];apply Yh;clear Yh Y;apply Xi)
 (refine qB fun Y Yh=>?_;simp[go_sem, hw])
 ((try refine Xj ?_);refine qm (.inl ⟨rfl,rfl⟩) (by simp[go_sem]) ?_;intro args ha;simp[go_sem] at ha;subst ha;refine ⟨_, L, ?_⟩;rintro _ ⟨k, rfl⟩;simp[go_sem])
 (refine qR [900010] (.inl ⟨rfl,rfl⟩) (by simp[go_sem]) ?_;intro args ha;simp[go_sem] at ha;subst ha;refine ⟨_, _, (vs_pdq (k := k) f g c w hc hl), (by simp[go_sem]), ?_⟩;rintro ps r hps ⟨rfl, rfl⟩;simp[go_sem];apply Yh;clear Yh Y;apply Xi)
 simp [go_sem]
set_option maxHeartbeats 8000000 in
theorem nd_ins {A X B m : List Prs} {pa pb : Int} (f g : Nat) (c : Prs → Prs → Int) (w : Weakly (ltF c)) (hc : ∀ x ∈ X, ∀ y ∈ X, PCall Tryz.prog f [dP x, dP y] fun r => r = dI (c x y))
  (hm : m = A ++ (X ++ B)) (ha : pa = A.length) (hb : pb = A.length + X.length) (hl : m.length ≤ 4611686018427387904) :
  ACall Tryz.prog 255 [.own 900010 g, dI pa, dI pb, dFn f] [(900010, (g, .row 114 2 (m.map cP)))] [900010] fun ps r => ps = [(g, .row 114 2 ((A ++ (sortL (ltF c) X ++ B)).map cP))] ∧ r = .tup [] := by  
 refine zg Tryz.func255 rfl rfl Tryz.ntmps255 (rs := []) (tys := []) rfl rfl (by simp) ?_ ?_
 ·intro p hp
  simp only [List.mem_cons, List.mem_nil_iff, or_false] at hp
  subst hp; simp [zn]
 subst ha hb
 have hml : m.length = A.length + (X.length + B.length) := by rw [hm]; simp
 (refine qc fun Y Yh=>?_;simp[go_sem];((repeat' (first|apply And.intro|(apply Yh;clear Yh Y)));all_goals first|apply Xi|omega))
 refine qj ?_
 refine qx (σ := Nat × List Prs) (fun x => ⟨[(0, .own 900010 g), (1, dI A.length), (2, dI (A.length + X.length)), (3, dFn f), (8, dI (A.length + x.1))], [(900010, (g, .row 114 2 (x.2.map cP)))]⟩)
  (fun x => 1 ≤ x.1 ∧ (x.1 ≤ X.length ∨ x.1 = 1) ∧ x.2 = A ++ (sortL (ltF c) (X.take x.1) ++ (X.drop x.1 ++ B))) (fun x => X.length + 1 - x.1) (1, m) ?_ ?_ ?_
 ·(refine ql ?_ ?_ <;> simp[go_sem])
 ·refine ⟨by omega, by omega, ?_⟩
  rw [hm]
  cases X with
  | nil => simp [sortL]
  | cons x r => simp [sortL, zf]
 rintro ⟨p, k⟩ ⟨hp, hp2, hk⟩
 simp only at hp hp2 hk
 refine qf fun K1 hK1 => ?_
 (refine qc fun Y Yh=>?_;simp[go_sem];apply Yh;clear Yh Y;apply Xi)
 (refine qg fun T F hT hF=>?_;simp[go_sem];refine BR.intro (fun h2=>hT ?_) (fun h2=>hF ?_);all_goals clear hT hF T F;try simp at h2) 
 ·refine qh ?_
  refine hK1 _ ?_; clear hK1
  have hpl : p < X.length := by omega
  obtain ⟨x, hx⟩ : ∃ x, X[p]? = some x := ⟨_, List.getElem?_eq_getElem hpl⟩
  have hxm := List.mem_of_getElem? hx
  have htk : X.take (p + 1) = X.take p ++ [x] := by rw [List.take_add_one, hx]; rfl
  have hdr : X.drop p = x :: X.drop (p + 1) := by
   rw [List.drop_eq_getElem_cons hpl]
   congr 1
   rw [List.getElem?_eq_getElem hpl] at hx
   exact Option.some.inj hx
  have hSl : (sortL (ltF c) (X.take p)).length = p := by rw [sort_len]; simp; omega
  have hSm : ∀ y ∈ sortL (ltF c) (X.take p), y ∈ X := fun y hy => List.mem_of_mem_take (sort_mem.1 hy)
  have hSs := sort_srt w (X.take p)
  have hsn := sort_snoc w (X.take p) x
  rw [← htk] at hsn
  rw [hdr] at hk
  generalize sortL (ltF c) (X.take p) = S at *
  have hnext : ∀ R : List Prs, A ++ (sortL (ltF c) (X.take (p + 1)) ++ R) = A ++ (mergeL (ltF c) S [x] ++ R) := fun R => by rw [hsn]
  generalize hR : X.drop (p + 1) ++ B = R at *
  have hkl : A.length + (p + (R.length + 1)) = m.length := by
   have : R.length = X.length - (p + 1) + B.length := by rw [← hR]; simp
   omega
  refine qf fun K3 hK3 => ?_
  have fin : ∀ (S' : St) (S1 S2 k' : List Prs), S1 ++ S2 = S → (∀ y ∈ S1, ltF c x y = false) → (∀ y ∈ S2, ltF c x y = true) → k' = A ++ (S1 ++ x :: (S2 ++ R)) →
    Cov S' ⟨[(0, .own 900010 g), (1, dI A.length), (2, dI (A.length + X.length)), (3, dFn f), (8, dI (A.length + p))], [(900010, (g, .row 114 2 (k'.map cP)))]⟩ → K3 S' := fun S' S1 S2 k' e1 e2 e3 e4 hS => by
   refine hK3 _ ?_
   refine qN hS ?_; clear hS
   (refine qB fun Y Yh=>?_;simp[go_sem];((repeat' (first|apply And.intro|(apply Yh;clear Yh Y)));all_goals first|apply Xi|omega))
   refine ⟨(p + 1, k'), ?_, ⟨by simp only; omega, by simp only; omega, ?_⟩, by simp only; omega⟩
   ·(refine ql ?_ ?_ <;> simp[go_sem])
    omega
   ·simp only
    rw [hR, hnext, ← e1, jK w e2 e3, e4]; simp
  clear hK3
  refine qj ?_
  (refine qc fun Y Yh=>?_;simp[go_sem];apply Yh;clear Yh Y;apply Xi)
  refine qj ?_
  refine qx (σ := List Prs × List Prs × List Prs) (fun y => ⟨[(0, .own 900010 g), (1, dI A.length), (2, dI (A.length + X.length)), (3, dFn f), (8, dI (A.length + p)), (9, dI (A.length + y.1.length))], [(900010, (g, .row 114 2 (y.2.2.map cP)))]⟩)
   (fun y => y.1 ++ y.2.1 = S ∧ (∀ z ∈ y.2.1, ltF c x z = true) ∧ y.2.2 = A ++ (y.1 ++ x :: (y.2.1 ++ R))) (fun y => y.1.length) (S, [], k) ?_ ?_ ?_
  ·(refine ql ?_ ?_ <;> simp[go_sem])
   omega
  ·exact ⟨by simp, by simp, by rw [hk]; simp [← hR]⟩
  rintro ⟨S1, S2, k'⟩ ⟨e1, e3, e4⟩
  simp only at e1 e3 e4
  have hsl : S1.length + S2.length = p := by rw [← hSl, ← e1]; simp
  have hkl' : k'.length = m.length := by rw [e4]; simp; omega
  refine qf fun K4 hK4 => ?_
  rcases List.eq_nil_or_concat S1 with h0 | ⟨S1', y, h0⟩
  ·subst h0
   have hz : ¬ ((A.length : Int) + (([] : List Prs).length : Int) > A.length) := by simp
   ((refine qE (.qs [0, 1, 2, 3] (.sk 4 (.sk 5 (.sk 6 (.sk 7 (.sk 9 (.sk 10 (.sk 11 (.sk 12 (.sk 8 (.sk 13 (.sk 14 (.sk 15 (.qs [16] (.nil))))))))))))))) (by kernel_rfl) ?_ ?_ ?_ ?_);kernel_rfl;exact (by decide +kernel);kernel_rfl;intro Y Yh;((repeat' (first|refine qy ?_|(refine qo fun Y Yh=>?_;simp[go_sem])|(refine qC fun Y Yh=>?_;simp[go_sem])|(apply Yh;clear Yh Y)));all_goals apply Xi))
   (refine qg fun T F hT hF=>?_;simp[go_sem];refine hF ?_;clear hT hF T F)
   refine qp ?_
   simp only [go_sem]
   refine fin _ [] S2 k' e1 (by simp) e3 e4 ?_
   (refine ql ?_ ?_ <;> simp[go_sem])
  ·rw [List.concat_eq_append] at h0
   subst h0
   have hym : y ∈ X := hSm y (by rw [← e1]; simp)
   have C := hc x hxm y hym
   have el : (S1' ++ [y]).length = S1'.length + 1 := by simp
   have hsl' : S1'.length + 1 + S2.length = p := by rw [← hsl]; simp
   have ek : k' = (A ++ S1') ++ y :: ([] ++ x :: (S2 ++ R)) := by rw [e4]; simp
   have t1 := Jq (P := A ++ S1') (Q := []) (R := S2 ++ R) (x := y) (y := x) (p := A.length + S1'.length) (q := A.length + (S1'.length + 1)) (by simp) (by simp; omega)
   have t2 := Qo (P := A ++ S1') (Q := []) (R := S2 ++ R) (x := y) (y := x) (p := A.length + S1'.length) (q := A.length + (S1'.length + 1)) (by simp) (by simp; omega)
   rw [← ek] at t1 t2
   obtain ⟨ty, tx⟩ := t1
   have i1 : ((A.length : Int) + ((S1'.length : Int) + 1)).toNat = A.length + (S1'.length + 1) := by omega
   have i2 : ((A.length : Int) + ((S1'.length : Int) + 1) - 1).toNat = A.length + S1'.length := by omega
   have tx2 : ((k'.map cP).set (A.length + (S1'.length + 1)) (cP y))[A.length + S1'.length]? = some (cP y) := by rw [List.getElem?_set_ne (by omega)]; simp [ty]
   have hpos : (A.length : Int) < (A.length : Int) + ((S1'.length : Int) + 1) := by omega
   ((refine qE (.qs [0, 1, 2, 3, 4, 5, 6, 7, 9, 10, 11, 12, 8, 13] (.one 14 (.qs [15, 16] (.nil)))) (by kernel_rfl) ?_ ?_ ?_ ?_);kernel_rfl;exact (by decide +kernel);kernel_rfl;intro Y Yh;((repeat' (first|(refine qH ?_;simp[go_sem, i1, i2, tx, ty, hpos])|(refine qo fun Y Yh=>?_;simp[go_sem, i1, i2, tx, ty, hpos])|(refine qC fun Y Yh=>?_;simp[go_sem, i1, i2, tx, ty, hpos])|apply And.intro|(apply Yh;clear Yh Y)));all_goals first|omega|skip))
   (refine qX (dI (c x y)) (.inl ⟨rfl,rfl⟩) ?_ rfl ?_;(intro hc args ha;simp[go_sem] at ha;subst ha;exact C);simp[go_sem];((repeat' (first|refine qy ?_|(refine qo fun Y Yh=>?_;simp[go_sem])|(apply Yh;clear Yh Y)));all_goals apply Xi))
   (refine qg fun T F hT hF=>?_;simp[go_sem];refine BR.intro (fun h5=>hT ?_) (fun h5=>hF ?_);all_goals clear hT hF T F;try simp at h5)
   ·refine qh ?_
    refine hK4 _ ?_; clear hK4
    have hlt : ltF c x y = true := by unfold ltF; simpa using h5
    refine qf fun K6 hK6 => ?_
    refine qj ?_
    ((refine zA (.qs [0, 1, 2, 3, 4, 5, 6, 7, 8, 10, 11, 12, 9, 13, 14] (.one 15 (.qs [16] (.one 17 (.nil))))) (by kernel_rfl) ?_ ?_ ?_ ?_);kernel_rfl;exact (by decide +kernel);kernel_rfl;intro Y Yh;((repeat' (first|refine qy ?_|(refine qo fun Y Yh=>?_;simp[go_sem, i1, i2, tx, ty, tx2])|(refine qC fun Y Yh=>?_;simp[go_sem, i1, i2, tx, ty, tx2])|apply And.intro|(apply Yh;clear Yh Y)));all_goals first|apply Xi|omega))
    refine hK6 _ ?_; clear hK6
    (refine qB fun Y Yh=>?_;simp[go_sem];((repeat' (first|apply And.intro|(apply Yh;clear Yh Y)));all_goals first|apply Xi|omega))
    refine ⟨(S1', y :: S2, (k'.set (A.length + (S1'.length + 1)) y).set (A.length + S1'.length) x), ?_, ⟨by rw [← e1]; simp, ?_, ?_⟩, by simp only; simp⟩
    ·(refine ql ?_ ?_ <;> simp[go_sem, List.map_set])
     omega
    ·intro z hz
     rcases List.mem_cons.1 hz with rfl | hz
     ·exact hlt
     ·exact e3 z hz
    ·rw [t2]; simp
   ·have hge : ltF c x y = false := by unfold ltF; simpa using h5
    refine qp ?_
    simp only [go_sem]
    have hs1 : Srt (ltF c) ((S1' ++ [y]) ++ S2) := by rw [e1]; exact hSs
    refine fin _ (S1' ++ [y]) S2 k' e1 (srt_before w (srt_app hs1).1 hge) e3 e4 ?_
    (refine ql ?_ ?_ <;> simp[go_sem])
 ·refine qp ?_
  simp only [go_sem]
  have e1 : sortL (ltF c) (X.take p) = sortL (ltF c) X := by rw [List.take_of_length_le (by omega)]
  have e2 : X.drop p = [] := List.drop_of_length_le (by omega)
  rw [hk, e1, e2]
  simp [go_sem]
theorem nd_pdq {X : List Prs} {k : Int} (f g : Nat) (c : Prs → Prs → Int) (w : Weakly (ltF c)) (hc : ∀ x ∈ X, ∀ y ∈ X, PCall Tryz.prog f [dP x, dP y] fun r => r = dI (c x y)) (hl : X.length ≤ 12) :
  ACall Tryz.prog 220 [.own 900010 g, dI 0, dI X.length, dI k, dFn f] [(900010, (g, .row 114 2 (X.map cP)))] [900010] fun ps r => ps = [(g, .row 114 2 ((sortL (ltF c) X).map cP))] ∧ r = .tup [] := by
 refine zg Tryz.func220 rfl rfl Tryz.ntmps220 (rs := []) (tys := []) rfl rfl (by simp) ?_ ?_
 ·intro p hp
  simp only [List.mem_cons, List.mem_nil_iff, or_false] at hp
  subst hp; simp [zn]
 have I := @nd_ins [] X [] X 0 X.length f g c w hc (by simp) (by simp) (by simp) (by omega)
 simp only [List.nil_append, List.append_nil] at I
 (refine qc fun Y Yh=>?_;simp[go_sem];apply Yh;clear Yh Y;apply Xi)
 (refine qc fun Y Yh=>?_;simp[go_sem];apply Yh;clear Yh Y;apply Xi)
 refine qj ?_
 refine qx (σ := Unit) (fun _ => ⟨[(0, .own 900010 g), (1, dI 0), (2, dI X.length), (3, dI k), (4, dFn f), (10, dB true), (11, dB true)], [(900010, (g, .row 114 2 (X.map cP)))]⟩) (fun _ => True) (fun _ => 0) () ?_ ?_ ?_
 ·(refine ql ?_ ?_ <;> simp[go_sem])
 ·trivial
 rintro _ -
 refine qj ?_
 (refine qc fun Y Yh=>?_;simp[go_sem];((repeat' (first|apply And.intro|(apply Yh;clear Yh Y)));all_goals first|apply Xi|omega))
 refine qf fun K2 hK2 => ?_
 (refine qc fun Y Yh=>?_;simp[go_sem];apply Yh;clear Yh Y;apply Xi)
 (refine qg fun T F hT hF=>?_;simp[go_sem];refine BR.intro (fun h3=>hT ?_) (fun h3=>hF ?_);all_goals clear hT hF T F;try simp at h3)
 ·(refine qc fun Y Yh=>?_;simp[go_sem])
  (refine qR [900010] (.inl ⟨rfl,rfl⟩) (by simp[go_sem]) ?_;intro args ha;simp[go_sem] at ha;subst ha;refine ⟨_, _, I, (by simp[go_sem]), ?_⟩;rintro ps r hps ⟨rfl, rfl⟩;simp[go_sem];apply Yh;clear Yh Y;apply Xi)
  (refine qi ?_;simp[go_sem])
 ·exact absurd h3 (by omega)
theorem nd_sort {X : List Prs} (f g : Nat) (c : Prs → Prs → Int) (w : Weakly (ltF c)) (hc : ∀ x ∈ X, ∀ y ∈ X, PCall Tryz.prog f [dP x, dP y] fun r => r = dI (c x y)) (hl : X.length ≤ 12) :
  ACall Tryz.prog 185 [.own 900010 g, dFn f] [(900010, (g, .row 114 2 (X.map cP)))] [900010] fun ps r => ps = [(g, .row 114 2 ((sortL (ltF c) X).map cP))] ∧ r = .tup [] := by
 refine zg Tryz.func185 rfl rfl Tryz.ntmps185 (rs := []) (tys := []) rfl rfl (by simp) ?_ ?_
 ·intro p hp
  simp only [List.mem_cons, List.mem_nil_iff, or_false] at hp
  subst hp; simp [zn]
 have L := xK X.length (by omega)
 have hw : IntKind.u64.wrap (X.length : Int) = X.length := by rw [IntKind.wrap_u64]; omega
 (refine qc fun Y Yh=>?_;simp[go_sem];apply Yh;clear Yh Y;apply Xi)
 (refine qB fun Y Yh=>?_;simp[go_sem, hw])
 ((try refine Xj ?_);refine qm (.inl ⟨rfl,rfl⟩) (by simp[go_sem]) ?_;intro args ha;simp[go_sem] at ha;subst ha;refine ⟨_, L, ?_⟩;rintro _ ⟨k, rfl⟩;simp[go_sem])
 (refine qR [900010] (.inl ⟨rfl,rfl⟩) (by simp[go_sem]) ?_;intro args ha;simp[go_sem] at ha;subst ha;refine ⟨_, _, (nd_pdq (k := k) f g c w hc hl), (by simp[go_sem]), ?_⟩;rintro ps r hps ⟨rfl, rfl⟩;simp[go_sem];apply Yh;clear Yh Y;apply Xi)
 simp [go_sem]
theorem Qu (x y : Vrs) (hx : (readV x.1).isSome = true) (hy : (readV y.1).isSome = true) : PCall Tryz.prog 149 [dVr x, dVr y] fun r => r = dI (cD x y) := by 
 refine qw Tryz.func149 rfl rfl Tryz.ntmps149 (rs := [.tmp 4]) (tys := [3]) rfl rfl (by simp) ?_
 have C := xN y.1 x.1 (by have := zV hy; omega) (by have := zV hx; omega)
 rw [Qj hy hx] at C
 unfold cD
 generalize cV y.1 x.1 = c at *
 generalize codeP ((readV y.1).isSome && (readV x.1).isSome) = e at *
 (refine qc fun Y Yh=>?_;simp[go_sem];intro _;intro _;apply Yh;clear Yh Y;apply Xi)
 (refine qc fun Y Yh=>?_;simp[go_sem])
 ((try refine Xj ?_);refine qm (.inl ⟨rfl,rfl⟩) (by simp[go_sem]) ?_;intro args ha;simp[go_sem] at ha;subst ha;refine ⟨_, C, ?_⟩;rintro _ rfl;simp[go_sem];apply Yh;clear Yh Y;apply Xi)
 (refine qc fun Y Yh=>?_;simp[go_sem];apply Yh;clear Yh Y;apply Xi)
 (refine qi ?_;simp[go_sem])
theorem kC (l : List Vrs) (hl : l.length ≤ 1000000) : ACall Tryz.prog 144 [dVrs l] [] [900010] fun ps r => ∃ g, ps = [(g, .row 116 2 (l.map cVr))] ∧ r = .own 900010 g := by 
 refine zg Tryz.func144 rfl rfl Tryz.ntmps144 (rs := [.tmp 2]) (tys := [117]) rfl rfl (by simp) (by simp) ?_
 cases l with
 | nil =>
  (refine qc fun Y Yh=>?_;simp[go_sem];apply Yh;clear Yh Y;apply Xi)
  refine qf fun K1 hK1 => ?_
  (refine qc fun Y Yh=>?_;simp[go_sem];((repeat' (first|apply And.intro|(apply Yh;clear Yh Y)));all_goals apply Xi))
  ·(refine qg fun T F hT hF=>?_;simp[go_sem];refine hF ?_;clear hT hF T F)
   refine qh ?_
   refine hK1 _ ?_; clear hK1
   (refine qc fun Y Yh=>?_;simp[go_sem];intro _;intro _;apply Yh;clear Yh Y;apply Xi)
   refine zk 2 900010 rfl rfl (by decide) fun g => ?_
   simp only [go_sem]
   refine qi ?_
   simp [go_sem]
  ·(refine qg fun T F hT hF=>?_;simp[go_sem];refine hT ?_;clear hT hF T F)
   (refine qc fun Y Yh=>?_;simp[go_sem];apply Yh;clear Yh Y;apply Xi)
   refine qU 2 900010 116 2 rfl fun g => ?_
   simp only [go_sem]
   refine qi ?_
   simp [go_sem]
 | cons x r =>
  simp only [List.length_cons] at hl
  (refine qc fun Y Yh=>?_;simp[go_sem];apply Yh;clear Yh Y;apply Xi)
  refine qf fun K1 hK1 => ?_
  (refine qc fun Y Yh=>?_;simp[go_sem];apply Yh;clear Yh Y;apply Xi)
  refine qg fun T F hT hF => ?_
  simp [go_sem]
  refine hF ?_
  refine qh ?_
  refine hK1 _ ?_; clear hK1
  (refine qc fun Y Yh=>?_;simp[go_sem];((repeat' (first|intro _|apply And.intro|(apply Yh;clear Yh Y)));all_goals first|apply Xi|omega))
  refine zk 2 900010 rfl rfl (by decide) fun g => ?_
  simp only [go_sem]
  refine qi ?_
  simp [go_sem]
end Go.Proofs.YteekfnhhlcmcgaaGreatDoor
