/- Part of a proof: see the last text. -/
import Derived.Test.YtchnagdaljblnaaGreatDoorG10
import Derived.Test.YtchnagdaljblnaaGreatDoorG04
import Derived.Test.YtchnagdaljblnaaGreatDoorG07
import Derived.Test.YtchnagdaljblnaaGreatDoorG08
import Derived.Lib.ItoaLen
set_option linter.unusedVariables false
set_option linter.unusedSimpArgs false
namespace Go.Proofs.YtchnagdaljblnaaGreatDoor
open Go.Eng Go.Wh Go.Ver
set_option maxRecDepth 20000

theorem strCells_eq (s : List UInt8) : Lib.strCells ⟨s.toArray⟩ = Lib.byteCells s := by
 simp [Lib.strCells, Lib.byteCells]
/-- WriteString -/
theorem ws_spec (nb nr gb gr : Nat) (l s : List UInt8) (h1 : 900000 ≤ nb) (h2 : 900000 ≤ nr) (hd : nb ≠ nr) (hlen : l.length + s.length ≤ 140737488355328) :
  ACall Tryz.prog 72 [.ptr nb gb 0, dS s] [(nb, (gb, .bld 151 nr gr)), (nr, (gr, .brow 5 l))] [nb, nr] fun ps r => ∃ gr', ps = [(gb, .bld 151 nr gr'), (gr', .brow 5 (l ++ s))] ∧ r = .tup [dI s.length, .v .nilIface] := by
 refine acall_bld (xs := [.string ⟨s.toArray⟩]) (x := .tuple #[.int .i64 s.length, .nilIface]) ⟨_, Tryz.func72, rfl, rfl⟩ h1 h2 hd (fun C w => ?_) fun b p v w _ hb hp hown hne => ?_
 ·refine .tup _ _ rfl fun j c u hc hu => ?_
  match j, hc, hu with
  | 0, hc, hu => simp at hc hu; subst hc hu; exact .v _
  | 1, hc, hu => simp at hc hu; subst hc hu; exact .v _
  | j + 2, hc, hu => simp at hc
 ·refine (ws_calls b p v l ⟨s.toArray⟩ w hb hp hown hne (by simpa [ByteArray.size] using hlen)).mono ?_
  rintro e w' ⟨he, v', q1, q2, q3, q4, q5, q6, q7, q8, q9⟩
  refine ⟨by simpa [ByteArray.size] using he, _, v', q1, .inr rfl, ?_, q3, q4, q5, q6, q7, q8, q9⟩
  rw [strCells_eq] at q2
  simpa [ByteArray.size, Lib.byteCells] using q2
/-- String, of a Builder that holds a byte -/
theorem str_spec (nb nr gb gr : Nat) (l : List UInt8) (h1 : 900000 ≤ nb) (h2 : 900000 ≤ nr) (hd : nb ≠ nr) (h0 : l ≠ []) :
  ACall Tryz.prog 74 [.ptr nb gb 0] [(nb, (gb, .bld 151 nr gr)), (nr, (gr, .brow 5 l))] [nb, nr] fun ps r => ∃ gr', ps = [(gb, .bld 151 nr gr'), (gr', .brow 5 l)] ∧ r = dS l := by
 refine acall_bld (xs := []) (x := .string ⟨l.toArray⟩) ⟨_, Tryz.func74, rfl, rfl⟩ h1 h2 hd (fun C w => .v _) fun b p v w _ hb hp hown hne => ?_
 refine (str_calls b p v l w hb hown hne h0).mono ?_
 rintro e w' ⟨he, q1, q2, q3, q4, q5, q6, q7⟩
 exact ⟨he, p, v, q1, hp, q2, .inl rfl, hne, q3, q4, q5, q6, fun k _ => q7 k⟩
end Go.Proofs.YtchnagdaljblnaaGreatDoor

namespace Go.Proofs.YtchnagdaljblnaaGreatDoor
open Go.Eng Go.Wh Go.Ver Go.RowKit Go.Lk
set_option maxRecDepth 20000
attribute [local irreducible] AG CallA CallT AWp PCall ACall AgC
@[go_sem] theorem ba_app (a b : Array UInt8) : (⟨a⟩ : ByteArray) ++ ⟨b⟩ = ⟨a ++ b⟩ := by
 apply ByteArray.ext
 simp
theorem wline_spec (ind : Bs) (n : Prs) (hi : ind.length ≤ 4) (hn : PrOk n) : PCall Tryz.prog 73 [dS ind, dP n] fun r => r = dS (wantL ind n) := by 
 refine pcall_of Tryz.func73 rfl rfl Tryz.ntmps73 (rs := [.tmp 4]) (tys := [9]) rfl rfl (by simp) ?_
 obtain ⟨a, b⟩ := n
 obtain ⟨hna, hnb⟩ := hn
 simp only at hna hnb
 unfold wantL
 simp only
 (refine awp_sr fun KK hKK => ?_; simp [go_sem]; ((repeat' (first|(refine ag_x ?_;simp [go_sem])|intro _|refine And.intro ?_ ?_|(apply hKK;clear hKK KK)));all_goals first|refine Hold.mk ?_|omega|with_reducible assumption|skip))
 refine awp_seq_k fun K1 hK1 => ?_
 (refine awp_sr fun KK hKK => ?_; simp [go_sem]; ((repeat' (first|(refine ag_x ?_;simp [go_sem])|intro _|refine And.intro ?_ ?_|(apply hKK;clear hKK KK)));all_goals first|refine Hold.mk ?_|omega|with_reducible assumption|skip))
 cases b with
 | nil =>
  (refine awp_if fun T F hT hF => ?_; simp [go_sem]; refine hT ?_; clear hT hF T F)
  (refine awp_sr fun KK hKK => ?_; simp [go_sem]; ((repeat' (first|(refine ag_x ?_;simp [go_sem])|intro _|refine And.intro ?_ ?_|(apply hKK;clear hKK KK)));all_goals first|refine Hold.mk ?_|omega|with_reducible assumption|skip))
  (refine awp_ret ?_; simp [go_sem])
 | cons c b =>
  simp only [List.length_cons] at hnb
  (refine awp_if fun T F hT hF => ?_; simp [go_sem]; refine hF ?_; clear hT hF T F)
  refine awp_skip ?_
  refine hK1 _ ?_; clear hK1
  (refine awp_sr fun KK hKK => ?_; simp [go_sem]; ((repeat' (first|(refine ag_x ?_;simp [go_sem])|intro _|refine And.intro ?_ ?_|(apply hKK;clear hKK KK)));all_goals first|refine Hold.mk ?_|omega|with_reducible assumption|skip))
  (refine awp_ret ?_; simp [go_sem])
theorem wanted_spec (ind : Bs) (n : Prs) (hi : ind.length ≤ 4) (hn : PrOk n) : PCall Tryz.prog 38 [dS ind, dP n] fun r => r = dS (wantL ind n) := by 
 refine pcall_of Tryz.func38 rfl rfl Tryz.ntmps38 (rs := [.tmp 4]) (tys := [9]) rfl rfl (by simp) ?_
 obtain ⟨a, b⟩ := n
 obtain ⟨hna, hnb⟩ := hn
 simp only at hna hnb
 unfold wantL
 simp only
 (refine awp_sr fun KK hKK => ?_; simp [go_sem]; ((repeat' (first|(refine ag_x ?_;simp [go_sem])|intro _|refine And.intro ?_ ?_|(apply hKK;clear hKK KK)));all_goals first|refine Hold.mk ?_|omega|with_reducible assumption|skip))
 refine awp_seq_k fun K1 hK1 => ?_
 (refine awp_sr fun KK hKK => ?_; simp [go_sem]; ((repeat' (first|(refine ag_x ?_;simp [go_sem])|intro _|refine And.intro ?_ ?_|(apply hKK;clear hKK KK)));all_goals first|refine Hold.mk ?_|omega|with_reducible assumption|skip))
 cases b with
 | nil =>
  (refine awp_if fun T F hT hF => ?_; simp [go_sem]; refine hT ?_; clear hT hF T F)
  (refine awp_sr fun KK hKK => ?_; simp [go_sem]; ((repeat' (first|(refine ag_x ?_;simp [go_sem])|intro _|refine And.intro ?_ ?_|(apply hKK;clear hKK KK)));all_goals first|refine Hold.mk ?_|omega|with_reducible assumption|skip))
  (refine awp_ret ?_; simp [go_sem])
 | cons c b =>
  simp only [List.length_cons] at hnb
  (refine awp_if fun T F hT hF => ?_; simp [go_sem]; refine hF ?_; clear hT hF T F)
  refine awp_skip ?_
  refine hK1 _ ?_; clear hK1
  (refine awp_sr fun KK hKK => ?_; simp [go_sem]; ((repeat' (first|(refine ag_x ?_;simp [go_sem])|intro _|refine And.intro ?_ ?_|(apply hKK;clear hKK KK)));all_goals first|refine Hold.mk ?_|omega|with_reducible assumption|skip))
  (refine awp_ret ?_; simp [go_sem])
set_option maxHeartbeats 8000000 in
theorem rText_spec (L : Lck) (hL : LkOk L) : PCall Tryz.prog 11 [dLk L] fun r => r = .tup [dS (if lockV L = true then textV L else []), dI (if lockV L = true then 0 else 1)] := by 
 refine pcall_of Tryz.func11 rfl rfl Tryz.ntmps11 (rs := [.tmp 2, .tmp 3]) (tys := [9, 27]) rfl rfl (by simp) ?_
 have CK := rLValid_spec L hL
 have hPS := fun i x r => @pksT_step L i x r
 have hP0 := pksT_zero L
 have hLV := @lockV_parts L
 have hLN := @lockV_needs L
 have hPL := @pksT_len L
 have hT : textV L = headT L ++ (preSum ++ (Lib.itoa (sumV (headT L) (headT L).length : Nat) ++ [10])) := rfl
 have hH : headT L = pksT L L.1.length ++ (wishH ++ (ndsT pre2 L.2.2 L.2.2.length ++ [10])) := rfl
 obtain ⟨P, N, W⟩ := L
 obtain ⟨hP, hN, hW, hP1, hN1, hW1⟩ := hL
 simp only at hP hN hW hP1 hN1 hW1 hPS hLV hLN hPL hH hT
 generalize lockV (P, N, W) = lk at *
 generalize textV (P, N, W) = tv at *
 generalize hpk : pksT (P, N, W) = pk at *
 generalize headT (P, N, W) = hd at *
 (refine awp_sr fun KK hKK => ?_; simp [go_sem]; ((repeat' (first|(refine ag_x ?_;simp [go_sem])|intro _|refine And.intro ?_ ?_|(apply hKK;clear hKK KK)));all_goals first|refine Hold.mk ?_|omega|with_reducible assumption|skip))
 rename_i g1
 refine awp_seq_k fun K1 hK1 => ?_
 (refine awp_sr fun KK hKK => ?_; simp [go_sem]; ((repeat' (first|(refine ag_x ?_;simp [go_sem])|intro _|refine And.intro ?_ ?_|(apply hKK;clear hKK KK)));all_goals first|refine Hold.mk ?_|omega|with_reducible assumption|skip))
 ((try refine CallT.toA ?_); refine callT_m (by first | exact .inl ⟨rfl, rfl⟩ | exact .inr rfl) (by simp [go_sem]) ?_; intro args ha; simp [go_sem] at ha; subst ha; refine ⟨_, CK, ?_⟩; rintro _ rfl; simp [go_sem]; ((repeat' (first|(refine ag_x ?_;simp [go_sem])|intro _|refine And.intro ?_ ?_|(apply hKK;clear hKK KK)));all_goals first|refine Hold.mk ?_|omega|with_reducible assumption|skip))
 cases lk with
 | false =>
  (refine awp_if fun T F hT hF => ?_; simp [go_sem]; refine hT ?_; clear hT hF T F)
  (refine awp_sr fun KK hKK => ?_; simp [go_sem]; ((repeat' (first|(refine ag_x ?_;simp [go_sem])|intro _|refine And.intro ?_ ?_|(apply hKK;clear hKK KK)));all_goals first|refine Hold.mk ?_|omega|with_reducible assumption|skip))
  (refine awp_ret ?_; simp [go_sem])
 | true =>
  (refine awp_if fun T F hT hF => ?_; simp [go_sem]; refine hF ?_; clear hT hF T F)
  refine awp_skip ?_
  refine hK1 _ ?_; clear hK1
  obtain ⟨v1, v2, v3, v4⟩ := hLV rfl
  have hN6 := hLN rfl
  have hPL1 := hPL (fun r hr => ⟨hN6 r hr, fun x hx => (hN1 r hr).2 x hx⟩) hP1
  (refine awp_sr fun KK hKK => ?_; simp [go_sem]; ((repeat' (first|(refine ag_x ?_;simp [go_sem])|intro _|refine And.intro ?_ ?_|(apply hKK;clear hKK KK)));all_goals first|refine Hold.mk ?_|omega|with_reducible assumption|skip))
  refine awp_seq_k fun K3 hK3 => ?_
  (refine awp_sr fun KK hKK => ?_; simp [go_sem]; ((repeat' (first|(refine ag_x ?_;simp [go_sem])|intro _|refine And.intro ?_ ?_|(apply hKK;clear hKK KK)));all_goals first|refine Hold.mk ?_|omega|with_reducible assumption|skip))
  refine awp_block ?_
  refine awp_loop (σ := Nat) (fun i => ⟨[(1, .ptr 1 g1 0), (4, dS (pk i)), (5, dI i)], [(1, g1, .box [dPs P, dNs N, dPs W])]⟩) (fun i => i ≤ P.length) (fun i => P.length - i) 0 ?_ ?_ ?_
  ·(refine cov_of ?_ ?_ <;> simp [go_sem, hP0, gemsH])
  ·simp
  intro i hi
  refine awp_seq_k fun K4 hK4 => ?_
  (refine awp_sr fun KK hKK => ?_; simp [go_sem]; ((repeat' (first|(refine ag_x ?_;simp [go_sem])|intro _|refine And.intro ?_ ?_|(apply hKK;clear hKK KK)));all_goals first|refine Hold.mk ?_|omega|with_reducible assumption|skip))
  (refine awp_if fun T F hT hF => ?_; simp [go_sem]; refine BR.intro (fun h5 => hT ?_) (fun h5 => hF ?_); all_goals clear hT hF T F; try simp at h5) 
  ·refine awp_skip ?_
   refine hK4 _ ?_; clear hK4
   obtain ⟨x, hx⟩ : ∃ x, P[i]? = some x := ⟨_, List.getElem?_eq_getElem (by omega)⟩
   obtain ⟨r, hr⟩ : ∃ r, N[i]? = some r := ⟨_, List.getElem?_eq_getElem (by omega)⟩
   have hst := hPS i x r hx hr
   have hr6 := hN1 r (List.mem_of_getElem? hr)
   have hst2 := fun k y => @ndsT_step pre4 r k y
   have hst0 := ndsT_zero pre4 r
   have hpi : (pk i).length ≤ 840003245 := Nat.le_trans (hPL1 i) (Nat.le_trans (Nat.add_le_add_left (Nat.mul_le_mul_right _ (Nat.le_trans hi v1)) 5) (by decide))
   have hxl := hP1 x (List.mem_of_getElem? hx)
   have hpx : (pickL x).length ≤ 2000006 := by
    have q1 := hxl.1
    have q2 := hxl.2
    simp [pickL]; omega
   have hnl := ndsT_len (ind := pre4) (l := r) (by decide) hr6.2
   have hr66 := hN6 r (List.mem_of_getElem? hr)
   generalize pk i = pki at *
   refine awp_seq_k fun K6 hK6 => ?_
   refine awp_block ?_
   ((refine awp_dr (.qs [0, 1, 2, 4, 10, 12, 3, 5, 6, 7, 8, 9, 11, 13, 14, 15, 16, 17, 18] (.nil)) (by kernel_rfl) ?_ ?_ ?_ ?_); (kernel_rfl); (exact (by decide +kernel)); (kernel_rfl); intro KK hKK; ((repeat' (first|(refine ag_x ?_;simp [go_sem, hx])|refine adr_nil ?_|((first|refine adr_qs fun KK hKK=>?_|refine adr_y fun KK hKK=>?_);simp [go_sem, hx])|intro _|refine And.intro ?_ ?_|(apply hKK;clear hKK KK)));all_goals first|refine Hold.mk ?_|omega|with_reducible assumption|skip))
   (refine awp_sr fun KK hKK => ?_; simp [go_sem]; ((repeat' (first|(refine ag_x ?_;simp [go_sem])|intro _|refine And.intro ?_ ?_|(apply hKK;clear hKK KK)));all_goals first|refine Hold.mk ?_|omega|with_reducible assumption|skip))
   refine awp_block ?_
   generalize ndsT pre4 r = nt at *
   refine awp_loop (σ := Nat) (fun k => ⟨[(1, .ptr 1 g1 0), (4, dS (pki ++ (pickL x ++ nt k))), (5, dI i), (6, dI k)], [(1, g1, .box [dPs P, dNs N, dPs W])]⟩) (fun k => k ≤ r.length) (fun k => r.length - k) 0 ?_ ?_ ?_
   ·(refine cov_of ?_ ?_ <;> simp [go_sem, hst0, pickL])
   ·simp
   intro k hk
   have hnk : (nt k).length ≤ 12000048 := Nat.le_trans (hnl k) (Nat.le_trans (Nat.mul_le_mul_right _ (Nat.le_trans hk hr66)) (by decide))
   refine awp_seq_k fun K7 hK7 => ?_
   (refine awp_sr fun KK hKK => ?_; simp [go_sem, hr]; ((repeat' (first|(refine ag_x ?_;simp [go_sem, hr])|intro _|refine And.intro ?_ ?_|(apply hKK;clear hKK KK)));all_goals first|refine Hold.mk ?_|omega|with_reducible assumption|skip))
   (refine awp_if fun T F hT hF => ?_; simp [go_sem]; refine BR.intro (fun h8 => hT ?_) (fun h8 => hF ?_); all_goals clear hT hF T F; try simp at h8) 
   ·refine awp_skip ?_
    refine hK7 _ ?_; clear hK7
    obtain ⟨y, hy⟩ : ∃ y, r[k]? = some y := ⟨_, List.getElem?_eq_getElem (by omega)⟩
    have hst3 := hst2 k y hy
    have hyl := hr6.2 y (List.mem_of_getElem? hy)
    have hwl := wantL_len pre4 y
    have WS := wanted_spec pre4 y (by decide) hyl
    have hp4 : pre4.length = 4 := rfl
    have q1 := hyl.1
    have q2 := hyl.2
    generalize wantL pre4 y = wy at *
    refine awp_seq_k fun K9 hK9 => ?_
    refine awp_block ?_
    (refine awp_r fun KK hKK => ?_; simp [go_sem, hr, hy]; ((repeat' (first|(refine ag_x ?_;simp [go_sem, hr, hy])|intro _|refine And.intro ?_ ?_|(apply hKK;clear hKK KK)));all_goals first|refine Hold.mk ?_|omega|with_reducible assumption|skip))
    ((try refine CallT.toA ?_); refine callT_m (by first | exact .inl ⟨rfl, rfl⟩ | exact .inr rfl) (by simp [go_sem]) ?_; intro args ha; simp [go_sem] at ha; subst ha; refine ⟨_, WS, ?_⟩; rintro _ rfl; simp [go_sem]; ((repeat' (first|(refine ag_x ?_;simp [go_sem])|intro _|refine And.intro ?_ ?_|(apply hKK;clear hKK KK)));all_goals first|refine Hold.mk ?_|omega|with_reducible assumption|skip))
    refine hK9 _ ?_; clear hK9
    (refine awp_r fun KK hKK => ?_; simp [go_sem]; ((repeat' (first|(refine ag_x ?_;simp [go_sem])|intro _|refine And.intro ?_ ?_|(apply hKK;clear hKK KK)));all_goals first|refine Hold.mk ?_|omega|with_reducible assumption|skip))
    refine ⟨k + 1, ?_, by omega, by omega⟩
    (refine cov_of ?_ ?_ <;> simp [go_sem, hst3])
   ·refine awp_exit ?_
    simp only [go_sem]
    refine hK6 _ ?_; clear hK6
    have : k = r.length := by omega
    subst this
    (refine awp_r fun KK hKK => ?_; simp [go_sem]; ((repeat' (first|(refine ag_x ?_;simp [go_sem])|intro _|refine And.intro ?_ ?_|(apply hKK;clear hKK KK)));all_goals first|refine Hold.mk ?_|omega|with_reducible assumption|skip))
    refine ⟨i + 1, ?_, by omega, by omega⟩
    (refine cov_of ?_ ?_ <;> simp [go_sem, hst])
  ·refine awp_exit ?_
   simp only [go_sem]
   refine hK3 _ ?_; clear hK3
   have : i = P.length := by omega
   subst this
   have hPL2 := hPL1 P.length
   have hWl := ndsT_len (ind := pre2) (l := W) (by decide) hW1
   have hst2 := fun k y => @ndsT_step pre2 W k y
   have hst0 := ndsT_zero pre2 W
   have hW8 := needsV_len v3
   have hpn : (pk P.length).length ≤ 840003245 := Nat.le_trans hPL2 (Nat.le_trans (Nat.add_le_add_left (Nat.mul_le_mul_right _ v1) 5) (by decide))
   have hhl := congrArg List.length hH
   simp only [List.length_append] at hhl
   generalize pk P.length = pkn at *
   generalize ndsT pre2 W = nt at *
   (refine awp_sr fun KK hKK => ?_; simp [go_sem]; ((repeat' (first|(refine ag_x ?_;simp [go_sem])|intro _|refine And.intro ?_ ?_|(apply hKK;clear hKK KK)));all_goals first|refine Hold.mk ?_|omega|with_reducible assumption|skip))
   refine awp_seq_k fun K10 hK10 => ?_
   (refine awp_sr fun KK hKK => ?_; simp [go_sem]; ((repeat' (first|(refine ag_x ?_;simp [go_sem])|intro _|refine And.intro ?_ ?_|(apply hKK;clear hKK KK)));all_goals first|refine Hold.mk ?_|omega|with_reducible assumption|skip))
   refine awp_block ?_
   refine awp_loop (σ := Nat) (fun k => ⟨[(1, .ptr 1 g1 0), (4, dS (pkn ++ (wishH ++ nt k))), (7, dI k)], [(1, g1, .box [dPs P, dNs N, dPs W])]⟩) (fun k => k ≤ W.length) (fun k => W.length - k) 0 ?_ ?_ ?_
   ·(refine cov_of ?_ ?_ <;> simp [go_sem, hst0, wishH])
   ·simp
   intro k hk
   have hnk : (nt k).length ≤ 16000064 := Nat.le_trans (hWl k) (Nat.le_trans (Nat.mul_le_mul_right _ (Nat.le_trans hk hW8)) (by decide))
   refine awp_seq_k fun K11 hK11 => ?_
   (refine awp_sr fun KK hKK => ?_; simp [go_sem]; ((repeat' (first|(refine ag_x ?_;simp [go_sem])|intro _|refine And.intro ?_ ?_|(apply hKK;clear hKK KK)));all_goals first|refine Hold.mk ?_|omega|with_reducible assumption|skip))
   (refine awp_if fun T F hT hF => ?_; simp [go_sem]; refine BR.intro (fun h12 => hT ?_) (fun h12 => hF ?_); all_goals clear hT hF T F; try simp at h12)
   ·refine awp_skip ?_
    refine hK11 _ ?_; clear hK11
    obtain ⟨y, hy⟩ : ∃ y, W[k]? = some y := ⟨_, List.getElem?_eq_getElem (by omega)⟩
    have hst3 := hst2 k y hy
    have hyl := hW1 y (List.mem_of_getElem? hy)
    have hwl := wantL_len pre2 y
    have WS := wanted_spec pre2 y (by decide) hyl
    have hp2 : pre2.length = 2 := rfl
    have q1 := hyl.1
    have q2 := hyl.2
    have hw6 : wishH.length = 6 := rfl
    generalize wantL pre2 y = wy at *
    refine awp_seq_k fun K13 hK13 => ?_
    refine awp_block ?_
    (refine awp_r fun KK hKK => ?_; simp [go_sem, hy]; ((repeat' (first|(refine ag_x ?_;simp [go_sem, hy])|intro _|refine And.intro ?_ ?_|(apply hKK;clear hKK KK)));all_goals first|refine Hold.mk ?_|omega|with_reducible assumption|skip))
    ((try refine CallT.toA ?_); refine callT_m (by first | exact .inl ⟨rfl, rfl⟩ | exact .inr rfl) (by simp [go_sem]) ?_; intro args ha; simp [go_sem] at ha; subst ha; refine ⟨_, WS, ?_⟩; rintro _ rfl; simp [go_sem]; ((repeat' (first|(refine ag_x ?_;simp [go_sem])|intro _|refine And.intro ?_ ?_|(apply hKK;clear hKK KK)));all_goals first|refine Hold.mk ?_|omega|with_reducible assumption|skip))
    refine hK13 _ ?_; clear hK13
    (refine awp_r fun KK hKK => ?_; simp [go_sem]; ((repeat' (first|(refine ag_x ?_;simp [go_sem])|intro _|refine And.intro ?_ ?_|(apply hKK;clear hKK KK)));all_goals first|refine Hold.mk ?_|omega|with_reducible assumption|skip))
    refine ⟨k + 1, ?_, by omega, by omega⟩
    (refine cov_of ?_ ?_ <;> simp [go_sem, hst3])
   ·refine awp_exit ?_
    simp only [go_sem]
    refine hK10 _ ?_; clear hK10
    have : k = W.length := by omega
    subst this
    have hWl2 := hWl W.length
    have e : pkn ++ (wishH ++ (nt W.length ++ [10])) = hd := hH.symm
    have hdl : hd.length ≤ 1000000000 := by
     rw [hhl]
     have e1 : P.length * 14000054 ≤ 60 * 14000054 := Nat.mul_le_mul_right _ v1
     have e2 : W.length * 2000008 ≤ 8 * 2000008 := Nat.mul_le_mul_right _ hW8
     have e4 : (nt W.length).length ≤ 16000064 := Nat.le_trans hWl2 (Nat.le_trans e2 (by decide))
     have e5 : wishH.length = 6 := rfl
     have e6 : ([10] : Bs).length = 1 := rfl
     rw [e5, e6]
     omega
    have SU := rsum_spec hd hdl
    have hsl := sumV_lt hd hd.length
    have IT := itoa_spec (sumV hd hd.length : Nat) (by omega) (by omega)
    have hil := Lib.itoa_length_le (sumV hd hd.length : Nat) (by omega) (by omega)
    generalize sumV hd hd.length = sm at *
    (refine awp_sr fun KK hKK => ?_; simp [go_sem]; ((repeat' (first|(refine ag_x ?_;simp [go_sem])|intro _|refine And.intro ?_ ?_|(apply hKK;clear hKK KK)));all_goals first|refine Hold.mk ?_|omega|with_reducible assumption|skip))
    refine awp_cov (S' := ⟨[(4, dS hd)], []⟩) (by rw [← e]; (refine cov_of ?_ ?_ <;> simp [go_sem])) ?_
    clear e hH
    (refine awp_sr fun KK hKK => ?_; simp [go_sem]; ((repeat' (first|(refine ag_x ?_;simp [go_sem])|intro _|refine And.intro ?_ ?_|(apply hKK;clear hKK KK)));all_goals first|refine Hold.mk ?_|omega|with_reducible assumption|skip))
    ((try refine CallT.toA ?_); refine callT_m (by first | exact .inl ⟨rfl, rfl⟩ | exact .inr rfl) (by simp [go_sem]) ?_; intro args ha; simp [go_sem] at ha; subst ha; refine ⟨_, SU, ?_⟩; rintro _ rfl; simp [go_sem]; ((repeat' (first|(refine ag_x ?_;simp [go_sem])|intro _|refine And.intro ?_ ?_|(apply hKK;clear hKK KK)));all_goals first|refine Hold.mk ?_|omega|with_reducible assumption|skip))
    ((try refine CallT.toA ?_); refine callT_m (by first | exact .inl ⟨rfl, rfl⟩ | exact .inr rfl) (by simp [go_sem]) ?_; intro args ha; simp [go_sem] at ha; subst ha; refine ⟨_, IT, ?_⟩; rintro _ rfl; simp [go_sem]; ((repeat' (first|(refine ag_x ?_;simp [go_sem])|intro _|refine And.intro ?_ ?_|(apply hKK;clear hKK KK)));all_goals first|refine Hold.mk ?_|omega|with_reducible assumption|skip))
    (refine awp_ret ?_; simp [go_sem, hT, preSum])
end Go.Proofs.YtchnagdaljblnaaGreatDoor

namespace Go.Proofs.YtchnagdaljblnaaGreatDoor
open Go.Eng Go.Wh Go.Ver Go.RowKit Go.Lk
set_option maxRecDepth 20000
attribute [local irreducible] AG CallA CallT AWp PCall ACall AgC
set_option maxHeartbeats 16000000 in
theorem lText_spec (L : Lck) (hL : LkOk L) : PCall Tryz.prog 36 [dLk L] fun r => r = .tup [dS (if lockV L = true then textV L else []), dI (if lockV L = true then 0 else 1)] := by 
 refine pcall_of Tryz.func36 rfl rfl Tryz.ntmps36 (rs := [.tmp 2, .tmp 3]) (tys := [9, 27]) rfl rfl (by simp) ?_
 have CK := lCheck_spec L hL
 have hPS := fun i x r => @pksT_step L i x r
 have hP0 := pksT_zero L
 have hLV := @lockV_parts L
 have hLN := @lockV_needs L
 have hPL := @pksT_len L
 have hT : textV L = headT L ++ (preSum ++ (Lib.itoa (sumV (headT L) (headT L).length : Nat) ++ [10])) := rfl
 have hH : headT L = pksT L L.1.length ++ (wishH ++ (ndsT pre2 L.2.2 L.2.2.length ++ [10])) := rfl
 obtain ⟨P, N, W⟩ := L
 obtain ⟨hP, hN, hW, hP1, hN1, hW1⟩ := hL
 simp only at hP hN hW hP1 hN1 hW1 hPS hLV hLN hPL hH hT
 generalize lockV (P, N, W) = lk at *
 generalize textV (P, N, W) = tv at *
 generalize hpk : pksT (P, N, W) = pk at *
 generalize headT (P, N, W) = hd at *
 (refine awp_sr fun KK hKK => ?_; simp [go_sem]; ((repeat' (first|(refine ag_x ?_;simp [go_sem])|intro _|refine And.intro ?_ ?_|(apply hKK;clear hKK KK)));all_goals first|refine Hold.mk ?_|omega|with_reducible assumption|skip))
 rename_i g1
 refine awp_frzbox 1 rfl rfl ?_
 simp only [go_sem]
 refine awp_seq_k fun K1 hK1 => ?_
 (refine awp_sr fun KK hKK => ?_; simp [go_sem]; ((repeat' (first|(refine ag_x ?_;simp [go_sem])|intro _|refine And.intro ?_ ?_|(apply hKK;clear hKK KK)));all_goals first|refine Hold.mk ?_|omega|with_reducible assumption|skip))
 ((try refine CallT.toA ?_); refine callT_m (by first | exact .inl ⟨rfl, rfl⟩ | exact .inr rfl) (by simp [go_sem]) ?_; intro args ha; simp [go_sem] at ha; subst ha; refine ⟨_, CK, ?_⟩; rintro _ rfl; simp [go_sem]; ((repeat' (first|(refine ag_x ?_;simp [go_sem])|intro _|refine And.intro ?_ ?_|(apply hKK;clear hKK KK)));all_goals first|refine Hold.mk ?_|omega|with_reducible assumption|skip))
 (refine awp_sr fun KK hKK => ?_; simp [go_sem]; ((repeat' (first|(refine ag_x ?_;simp [go_sem])|intro _|refine And.intro ?_ ?_|(apply hKK;clear hKK KK)));all_goals first|refine Hold.mk ?_|omega|with_reducible assumption|skip))
 cases lk with
 | false =>
  (refine awp_if fun T F hT hF => ?_; simp [go_sem]; refine hT ?_; clear hT hF T F)
  (refine awp_sr fun KK hKK => ?_; simp [go_sem]; ((repeat' (first|(refine ag_x ?_;simp [go_sem])|intro _|refine And.intro ?_ ?_|(apply hKK;clear hKK KK)));all_goals first|refine Hold.mk ?_|omega|with_reducible assumption|skip))
  (refine awp_ret ?_; simp [go_sem])
 | true =>
  (refine awp_if fun T F hT hF => ?_; simp [go_sem]; refine hF ?_; clear hT hF T F)
  refine awp_skip ?_
  refine hK1 _ ?_; clear hK1
  obtain ⟨v1, v2, v3, v4⟩ := hLV rfl
  have hN6 := hLN rfl
  have hPL1 := hPL (fun r hr => ⟨hN6 r hr, fun x hx => (hN1 r hr).2 x hx⟩) hP1
  refine awp_bld 151 5 900000 900001 (by decide) (by decide) (by kernel_rfl) fun gb gr => ?_
  (refine awp_sr fun KK hKK => ?_; simp [go_sem]; ((repeat' (first|(refine ag_x ?_;simp [go_sem])|intro _|refine And.intro ?_ ?_|(apply hKK;clear hKK KK)));all_goals first|refine Hold.mk ?_|omega|with_reducible assumption|skip))
  (refine callA_l [900000, 900001] (by first | exact .inl ⟨rfl, rfl⟩ | exact .inr rfl) (by simp [go_sem]) ?_; intro args ha; simp [go_sem] at ha; subst ha; refine ⟨_, _, (ws_spec 900000 900001 gb gr [] _ (by decide) (by decide) (by decide) (by simp)), (by simp [go_sem]), ?_⟩; rintro ps r hps ⟨gr1, rfl, rfl⟩; simp [go_sem]; ((repeat' (first|(refine ag_x ?_;simp [go_sem])|intro _|refine And.intro ?_ ?_|(apply hKK;clear hKK KK)));all_goals first|refine Hold.mk ?_|omega|with_reducible assumption|skip))
  refine awp_seq_k fun K3 hK3 => ?_
  (refine awp_sr fun KK hKK => ?_; simp [go_sem]; ((repeat' (first|(refine ag_x ?_;simp [go_sem])|intro _|refine And.intro ?_ ?_|(apply hKK;clear hKK KK)));all_goals first|refine Hold.mk ?_|omega|with_reducible assumption|skip))
  refine awp_block ?_
  refine awp_loop (σ := Nat × Nat) (fun x => ⟨[(1, .rd [dPs P, dNs N, dPs W]), (5, .ptr 900000 gb 0), (19, dPs P), (20, dI P.length), (21, dI x.1)], [(900000, (gb, .bld 151 900001 x.2)), (900001, (x.2, .brow 5 (pk x.1)))]⟩) (fun x => x.1 ≤ P.length) (fun x => P.length - x.1) (0, gr1) ?_ ?_ ?_
  ·(refine cov_of ?_ ?_ <;> simp [go_sem, hP0, gemsH])
  ·simp
  rintro ⟨i, gr⟩ hi
  simp only at hi
  (refine awp_sr fun KK hKK => ?_; simp [go_sem]; ((repeat' (first|(refine ag_x ?_;simp [go_sem])|intro _|refine And.intro ?_ ?_|(apply hKK;clear hKK KK)));all_goals first|refine Hold.mk ?_|omega|with_reducible assumption|skip))
  refine awp_seq_k fun K4 hK4 => ?_
  (refine awp_if fun T F hT hF => ?_; simp [go_sem]; refine BR.intro (fun h5 => hT ?_) (fun h5 => hF ?_); all_goals clear hT hF T F; try simp at h5) 
  ·refine awp_skip ?_
   refine hK4 _ ?_; clear hK4
   obtain ⟨x, hx⟩ : ∃ x, P[i]? = some x := ⟨_, List.getElem?_eq_getElem (by omega)⟩
   obtain ⟨r, hr⟩ : ∃ r, N[i]? = some r := ⟨_, List.getElem?_eq_getElem (by omega)⟩
   have hst := hPS i x r hx hr
   have hr6 := hN1 r (List.mem_of_getElem? hr)
   have hst2 := fun k y => @ndsT_step pre4 r k y
   have hst0 := ndsT_zero pre4 r
   have hpi : (pk i).length ≤ 840003245 := Nat.le_trans (hPL1 i) (Nat.le_trans (Nat.add_le_add_left (Nat.mul_le_mul_right _ (Nat.le_trans hi v1)) 5) (by decide))
   have hxl := hP1 x (List.mem_of_getElem? hx)
   have q1 := hxl.1
   have q2 := hxl.2
   have hpx : (pickL x).length ≤ 2000006 := by simp [pickL]; omega
   have hnl := ndsT_len (ind := pre4) (l := r) (by decide) hr6.2
   have hr66 := hN6 r (List.mem_of_getElem? hr)
   generalize pk i = pki at *
   refine awp_seq_k fun K6 hK6 => ?_
   refine awp_block ?_
   (refine awp_sr fun KK hKK => ?_; simp [go_sem, hx]; ((repeat' (first|(refine ag_x ?_;simp [go_sem, hx])|intro _|refine And.intro ?_ ?_|(apply hKK;clear hKK KK)));all_goals first|refine Hold.mk ?_|omega|with_reducible assumption|skip))
   rename_i g7
   refine awp_frzbox 7 rfl rfl ?_
   simp only [go_sem]
   (refine awp_sr fun KK hKK => ?_; simp [go_sem]; ((repeat' (first|(refine ag_x ?_;simp [go_sem])|intro _|refine And.intro ?_ ?_|(apply hKK;clear hKK KK)));all_goals first|refine Hold.mk ?_|omega|with_reducible assumption|skip))
   (refine callA_l [900000, 900001] (by first | exact .inl ⟨rfl, rfl⟩ | exact .inr rfl) (by simp [go_sem]) ?_; intro args ha; simp [go_sem] at ha; subst ha; refine ⟨_, _, (ws_spec 900000 900001 gb gr pki _ (by decide) (by decide) (by decide) (by simp; omega)), (by simp [go_sem]), ?_⟩; rintro ps r hps ⟨gr2, rfl, rfl⟩; simp [go_sem]; ((repeat' (first|(refine ag_x ?_;simp [go_sem])|intro _|refine And.intro ?_ ?_|(apply hKK;clear hKK KK)));all_goals first|refine Hold.mk ?_|omega|with_reducible assumption|skip))
   (refine awp_sr fun KK hKK => ?_; simp [go_sem, hr]; ((repeat' (first|(refine ag_x ?_;simp [go_sem, hr])|intro _|refine And.intro ?_ ?_|(apply hKK;clear hKK KK)));all_goals first|refine Hold.mk ?_|omega|with_reducible assumption|skip))
   refine awp_block ?_
   generalize ndsT pre4 r = nt at *
   refine awp_loop (σ := Nat × Nat) (fun z => ⟨[(1, .rd [dPs P, dNs N, dPs W]), (5, .ptr 900000 gb 0), (19, dPs P), (20, dI P.length), (21, dI i), (39, dPs r), (40, dI r.length), (41, dI z.1)], [(900000, (gb, .bld 151 900001 z.2)), (900001, (z.2, .brow 5 (pki ++ (pickL x ++ nt z.1))))]⟩) (fun z => z.1 ≤ r.length) (fun z => r.length - z.1) (0, gr2) ?_ ?_ ?_
   ·(refine cov_of ?_ ?_ <;> simp [go_sem, hst0, pickL])
   ·simp
   rintro ⟨k, gr⟩ hk
   simp only at hk
   have hnk : (nt k).length ≤ 12000048 := Nat.le_trans (hnl k) (Nat.le_trans (Nat.mul_le_mul_right _ (Nat.le_trans hk hr66)) (by decide))
   (refine awp_sr fun KK hKK => ?_; simp [go_sem]; ((repeat' (first|(refine ag_x ?_;simp [go_sem])|intro _|refine And.intro ?_ ?_|(apply hKK;clear hKK KK)));all_goals first|refine Hold.mk ?_|omega|with_reducible assumption|skip))
   refine awp_seq_k fun K7 hK7 => ?_
   (refine awp_if fun T F hT hF => ?_; simp [go_sem]; refine BR.intro (fun h8 => hT ?_) (fun h8 => hF ?_); all_goals clear hT hF T F; try simp at h8) 
   ·refine awp_skip ?_
    refine hK7 _ ?_; clear hK7
    obtain ⟨y, hy⟩ : ∃ y, r[k]? = some y := ⟨_, List.getElem?_eq_getElem (by omega)⟩
    have hst3 := hst2 k y hy
    have hyl := hr6.2 y (List.mem_of_getElem? hy)
    have hwl := wantL_len pre4 y
    have WS := wline_spec pre4 y (by decide) hyl
    have hp4 : pre4.length = 4 := rfl
    have q1 := hyl.1
    have q2 := hyl.2
    generalize wantL pre4 y = wy at *
    refine awp_seq_k fun K9 hK9 => ?_
    refine awp_block ?_
    (refine awp_sr fun KK hKK => ?_; simp [go_sem, hy]; ((repeat' (first|(refine ag_x ?_;simp [go_sem, hy])|intro _|refine And.intro ?_ ?_|(apply hKK;clear hKK KK)));all_goals first|refine Hold.mk ?_|omega|with_reducible assumption|skip))
    rename_i g9
    refine awp_frzbox 9 rfl rfl ?_
    simp only [go_sem]
    (refine awp_r fun KK hKK => ?_; simp [go_sem]; ((repeat' (first|(refine ag_x ?_;simp [go_sem])|intro _|refine And.intro ?_ ?_|(apply hKK;clear hKK KK)));all_goals first|refine Hold.mk ?_|omega|with_reducible assumption|skip))
    ((try refine CallT.toA ?_); refine callT_m (by first | exact .inl ⟨rfl, rfl⟩ | exact .inr rfl) (by simp [go_sem]) ?_; intro args ha; simp [go_sem] at ha; subst ha; refine ⟨_, WS, ?_⟩; rintro _ rfl; simp [go_sem]; ((repeat' (first|(refine ag_x ?_;simp [go_sem])|intro _|refine And.intro ?_ ?_|(apply hKK;clear hKK KK)));all_goals first|refine Hold.mk ?_|omega|with_reducible assumption|skip))
    (refine callA_l [900000, 900001] (by first | exact .inl ⟨rfl, rfl⟩ | exact .inr rfl) (by simp [go_sem]) ?_; intro args ha; simp [go_sem] at ha; subst ha; refine ⟨_, _, (ws_spec 900000 900001 gb gr (pki ++ (pickL x ++ nt k)) _ (by decide) (by decide) (by decide) (by simp; omega)), (by simp [go_sem]), ?_⟩; rintro ps r hps ⟨gr3, rfl, rfl⟩; simp [go_sem]; ((repeat' (first|(refine ag_x ?_;simp [go_sem])|intro _|refine And.intro ?_ ?_|(apply hKK;clear hKK KK)));all_goals first|refine Hold.mk ?_|omega|with_reducible assumption|skip))
    refine hK9 _ ?_; clear hK9
    (refine awp_r fun KK hKK => ?_; simp [go_sem]; ((repeat' (first|(refine ag_x ?_;simp [go_sem])|intro _|refine And.intro ?_ ?_|(apply hKK;clear hKK KK)));all_goals first|refine Hold.mk ?_|omega|with_reducible assumption|skip))
    refine ⟨(k + 1, gr3), ?_, by simp only; omega, by simp only; omega⟩
    (refine cov_of ?_ ?_ <;> simp [go_sem, hst3])
   ·refine awp_exit ?_
    simp only [go_sem]
    refine hK6 _ ?_; clear hK6
    have : k = r.length := by omega
    subst this
    (refine awp_r fun KK hKK => ?_; simp [go_sem]; ((repeat' (first|(refine ag_x ?_;simp [go_sem])|intro _|refine And.intro ?_ ?_|(apply hKK;clear hKK KK)));all_goals first|refine Hold.mk ?_|omega|with_reducible assumption|skip))
    refine ⟨(i + 1, gr), ?_, by simp only; omega, by simp only; omega⟩
    (refine cov_of ?_ ?_ <;> simp [go_sem, hst])
  ·refine awp_exit ?_
   simp only [go_sem]
   refine hK3 _ ?_; clear hK3
   have : i = P.length := by omega
   subst this
   have hPL2 := hPL1 P.length
   have hWl := ndsT_len (ind := pre2) (l := W) (by decide) hW1
   have hst2 := fun k y => @ndsT_step pre2 W k y
   have hst0 := ndsT_zero pre2 W
   have hW8 := needsV_len v3
   have hpn : (pk P.length).length ≤ 840003245 := Nat.le_trans hPL2 (Nat.le_trans (Nat.add_le_add_left (Nat.mul_le_mul_right _ v1) 5) (by decide))
   have hhl := congrArg List.length hH
   simp only [List.length_append] at hhl
   generalize pk P.length = pkn at *
   generalize ndsT pre2 W = nt at *
   have hw6 : wishH.length = 6 := rfl
   (refine awp_sr fun KK hKK => ?_; simp [go_sem]; ((repeat' (first|(refine ag_x ?_;simp [go_sem])|intro _|refine And.intro ?_ ?_|(apply hKK;clear hKK KK)));all_goals first|refine Hold.mk ?_|omega|with_reducible assumption|skip))
   (refine callA_l [900000, 900001] (by first | exact .inl ⟨rfl, rfl⟩ | exact .inr rfl) (by simp [go_sem]) ?_; intro args ha; simp [go_sem] at ha; subst ha; refine ⟨_, _, (ws_spec 900000 900001 gb gr pkn _ (by decide) (by decide) (by decide) (by simp; omega)), (by simp [go_sem]), ?_⟩; rintro ps r hps ⟨gr2, rfl, rfl⟩; simp [go_sem]; ((repeat' (first|(refine ag_x ?_;simp [go_sem])|intro _|refine And.intro ?_ ?_|(apply hKK;clear hKK KK)));all_goals first|refine Hold.mk ?_|omega|with_reducible assumption|skip))
   refine awp_seq_k fun K10 hK10 => ?_
   (refine awp_sr fun KK hKK => ?_; simp [go_sem]; ((repeat' (first|(refine ag_x ?_;simp [go_sem])|intro _|refine And.intro ?_ ?_|(apply hKK;clear hKK KK)));all_goals first|refine Hold.mk ?_|omega|with_reducible assumption|skip))
   refine awp_block ?_
   refine awp_loop (σ := Nat × Nat) (fun z => ⟨[(5, .ptr 900000 gb 0), (52, dPs W), (53, dI W.length), (54, dI z.1)], [(900000, (gb, .bld 151 900001 z.2)), (900001, (z.2, .brow 5 (pkn ++ (wishH ++ nt z.1))))]⟩) (fun z => z.1 ≤ W.length) (fun z => W.length - z.1) (0, gr2) ?_ ?_ ?_
   ·(refine cov_of ?_ ?_ <;> simp [go_sem, hst0, wishH])
   ·simp
   rintro ⟨k, gr⟩ hk
   simp only at hk
   have hnk : (nt k).length ≤ 16000064 := Nat.le_trans (hWl k) (Nat.le_trans (Nat.mul_le_mul_right _ (Nat.le_trans hk hW8)) (by decide))
   (refine awp_sr fun KK hKK => ?_; simp [go_sem]; ((repeat' (first|(refine ag_x ?_;simp [go_sem])|intro _|refine And.intro ?_ ?_|(apply hKK;clear hKK KK)));all_goals first|refine Hold.mk ?_|omega|with_reducible assumption|skip))
   refine awp_seq_k fun K11 hK11 => ?_
   (refine awp_if fun T F hT hF => ?_; simp [go_sem]; refine BR.intro (fun h12 => hT ?_) (fun h12 => hF ?_); all_goals clear hT hF T F; try simp at h12)
   ·refine awp_skip ?_
    refine hK11 _ ?_; clear hK11
    obtain ⟨y, hy⟩ : ∃ y, W[k]? = some y := ⟨_, List.getElem?_eq_getElem (by omega)⟩
    have hst3 := hst2 k y hy
    have hyl := hW1 y (List.mem_of_getElem? hy)
    have hwl := wantL_len pre2 y
    have WS := wline_spec pre2 y (by decide) hyl
    have hp2 : pre2.length = 2 := rfl
    have q1 := hyl.1
    have q2 := hyl.2
    generalize wantL pre2 y = wy at *
    refine awp_seq_k fun K13 hK13 => ?_
    refine awp_block ?_
    (refine awp_sr fun KK hKK => ?_; simp [go_sem, hy]; ((repeat' (first|(refine ag_x ?_;simp [go_sem, hy])|intro _|refine And.intro ?_ ?_|(apply hKK;clear hKK KK)));all_goals first|refine Hold.mk ?_|omega|with_reducible assumption|skip))
    rename_i g11
    refine awp_frzbox 11 rfl rfl ?_
    simp only [go_sem]
    (refine awp_r fun KK hKK => ?_; simp [go_sem]; ((repeat' (first|(refine ag_x ?_;simp [go_sem])|intro _|refine And.intro ?_ ?_|(apply hKK;clear hKK KK)));all_goals first|refine Hold.mk ?_|omega|with_reducible assumption|skip))
    ((try refine CallT.toA ?_); refine callT_m (by first | exact .inl ⟨rfl, rfl⟩ | exact .inr rfl) (by simp [go_sem]) ?_; intro args ha; simp [go_sem] at ha; subst ha; refine ⟨_, WS, ?_⟩; rintro _ rfl; simp [go_sem]; ((repeat' (first|(refine ag_x ?_;simp [go_sem])|intro _|refine And.intro ?_ ?_|(apply hKK;clear hKK KK)));all_goals first|refine Hold.mk ?_|omega|with_reducible assumption|skip))
    (refine callA_l [900000, 900001] (by first | exact .inl ⟨rfl, rfl⟩ | exact .inr rfl) (by simp [go_sem]) ?_; intro args ha; simp [go_sem] at ha; subst ha; refine ⟨_, _, (ws_spec 900000 900001 gb gr (pkn ++ (wishH ++ nt k)) _ (by decide) (by decide) (by decide) (by simp; omega)), (by simp [go_sem]), ?_⟩; rintro ps r hps ⟨gr3, rfl, rfl⟩; simp [go_sem]; ((repeat' (first|(refine ag_x ?_;simp [go_sem])|intro _|refine And.intro ?_ ?_|(apply hKK;clear hKK KK)));all_goals first|refine Hold.mk ?_|omega|with_reducible assumption|skip))
    refine hK13 _ ?_; clear hK13
    (refine awp_r fun KK hKK => ?_; simp [go_sem]; ((repeat' (first|(refine ag_x ?_;simp [go_sem])|intro _|refine And.intro ?_ ?_|(apply hKK;clear hKK KK)));all_goals first|refine Hold.mk ?_|omega|with_reducible assumption|skip))
    refine ⟨(k + 1, gr3), ?_, by simp only; omega, by simp only; omega⟩
    (refine cov_of ?_ ?_ <;> simp [go_sem, hst3])
   ·refine awp_exit ?_
    simp only [go_sem]
    refine hK10 _ ?_; clear hK10
    have : k = W.length := by omega
    subst this
    have e : pkn ++ (wishH ++ (nt W.length ++ [10])) = hd := hH.symm
    have hdl : hd.length ≤ 1000000000 := by
     rw [hhl]
     have e6 : ([10] : Bs).length = 1 := rfl
     rw [hw6, e6]
     omega
    have hdn : hd ≠ [] := by rw [← e]; simp [wishH]
    have SU := sum_spec hd hdl
    have hsl := sumV_lt hd hd.length
    have IT := itoa_spec (sumV hd hd.length : Nat) (by omega) (by omega)
    have hil := Lib.itoa_length_le (sumV hd hd.length : Nat) (by omega) (by omega)
    generalize sumV hd hd.length = sm at *
    (refine awp_sr fun KK hKK => ?_; simp [go_sem]; ((repeat' (first|(refine ag_x ?_;simp [go_sem])|intro _|refine And.intro ?_ ?_|(apply hKK;clear hKK KK)));all_goals first|refine Hold.mk ?_|omega|with_reducible assumption|skip))
    (refine callA_l [900000, 900001] (by first | exact .inl ⟨rfl, rfl⟩ | exact .inr rfl) (by simp [go_sem]) ?_; intro args ha; simp [go_sem] at ha; subst ha; refine ⟨_, _, (ws_spec 900000 900001 gb gr (pkn ++ (wishH ++ nt W.length)) _ (by decide) (by decide) (by decide) (by simp; omega)), (by simp [go_sem]), ?_⟩; rintro ps r hps ⟨gr4, rfl, rfl⟩; simp [go_sem]; ((repeat' (first|(refine ag_x ?_;simp [go_sem])|intro _|refine And.intro ?_ ?_|(apply hKK;clear hKK KK)));all_goals first|refine Hold.mk ?_|omega|with_reducible assumption|skip))
    refine awp_cov (S' := ⟨[(5, .ptr 900000 gb 0)], [(900000, (gb, .bld 151 900001 gr4)), (900001, (gr4, .brow 5 hd))]⟩) (by rw [← e]; (refine cov_of ?_ ?_ <;> simp [go_sem])) ?_
    clear e hH
    (refine awp_sr fun KK hKK => ?_; simp [go_sem]; ((repeat' (first|(refine ag_x ?_;simp [go_sem])|intro _|refine And.intro ?_ ?_|(apply hKK;clear hKK KK)));all_goals first|refine Hold.mk ?_|omega|with_reducible assumption|skip))
    (refine callA_l [900000, 900001] (by first | exact .inl ⟨rfl, rfl⟩ | exact .inr rfl) (by simp [go_sem]) ?_; intro args ha; simp [go_sem] at ha; subst ha; refine ⟨_, _, (str_spec 900000 900001 gb gr4 hd (by decide) (by decide) (by decide) hdn), (by simp [go_sem]), ?_⟩; rintro ps r hps ⟨gr5, rfl, rfl⟩; simp [go_sem]; ((repeat' (first|(refine ag_x ?_;simp [go_sem])|intro _|refine And.intro ?_ ?_|(apply hKK;clear hKK KK)));all_goals first|refine Hold.mk ?_|omega|with_reducible assumption|skip))
    (refine callA_l [900000, 900001] (by first | exact .inl ⟨rfl, rfl⟩ | exact .inr rfl) (by simp [go_sem]) ?_; intro args ha; simp [go_sem] at ha; subst ha; refine ⟨_, _, (str_spec 900000 900001 gb gr5 hd (by decide) (by decide) (by decide) hdn), (by simp [go_sem]), ?_⟩; rintro ps r hps ⟨gr6, rfl, rfl⟩; simp [go_sem]; ((repeat' (first|(refine ag_x ?_;simp [go_sem])|intro _|refine And.intro ?_ ?_|(apply hKK;clear hKK KK)));all_goals first|refine Hold.mk ?_|omega|with_reducible assumption|skip))
    ((try refine CallT.toA ?_); refine callT_m (by first | exact .inl ⟨rfl, rfl⟩ | exact .inr rfl) (by simp [go_sem]) ?_; intro args ha; simp [go_sem] at ha; subst ha; refine ⟨_, SU, ?_⟩; rintro _ rfl; simp [go_sem]; ((repeat' (first|(refine ag_x ?_;simp [go_sem])|intro _|refine And.intro ?_ ?_|(apply hKK;clear hKK KK)));all_goals first|refine Hold.mk ?_|omega|with_reducible assumption|skip))
    ((try refine CallT.toA ?_); refine callT_m (by first | exact .inl ⟨rfl, rfl⟩ | exact .inr rfl) (by simp [go_sem]) ?_; intro args ha; simp [go_sem] at ha; subst ha; refine ⟨_, IT, ?_⟩; rintro _ rfl; simp [go_sem]; ((repeat' (first|(refine ag_x ?_;simp [go_sem])|intro _|refine And.intro ?_ ?_|(apply hKK;clear hKK KK)));all_goals first|refine Hold.mk ?_|omega|with_reducible assumption|skip))
    (refine awp_ret ?_; simp [go_sem, hT, preSum])
end Go.Proofs.YtchnagdaljblnaaGreatDoor

namespace Go.Proofs.YtchnagdaljblnaaGreatDoor
open Go.Eng Go.Wh Go.Ver Go.RowKit Go.Lk
set_option maxRecDepth 20000
attribute [local irreducible] AG CallA CallT AWp PCall ACall AgC
abbrev mP (l : List Prs) : List (List D) := l.map cP
/-- what is lent of a reader -/
@[go_sem] abbrev rdH (p : PS) (gb gp gn gw : Nat) (rs : List (Nat × List Prs)) : List (Nat × (Nat × Blk)) :=
 (900002, (gb, .box [dI p.part, .own 900003 gp, .own 900004 gn, .own 900005 gw, dS p.sum])) :: (900003, (gp, .row 83 2 (p.picks.map cP))) :: (900004, (gn, .row 43 1 (famO 1 0 rs))) :: (900005, (gw, .row 100 2 (p.wish.map cP))) :: fam 1 100 2 mP 0 rs
theorem rdH_ok (p : PS) (gb gp gn gw : Nat) (rs : List (Nat × List Prs)) (m : Nat) (hm : rs.length ≤ m) : ∀ q ∈ rdH p gb gp gn gw rs, 900000 ≤ q.1 ∧ notFroz q.2.2 = true ∧ q.1 ∈ 900002 :: 900003 :: 900004 :: 900005 :: famS 1 0 m := by
 intro q hq
 simp only [rdH, List.mem_cons] at hq
 rcases hq with rfl | rfl | rfl | rfl | hq
 ·simp [notFroz]
 ·simp [notFroz]
 ·simp [notFroz]
 ·simp [notFroz]
 ·obtain ⟨h1, h2, h3⟩ := mem_fam hq
  refine ⟨h2, h3, ?_⟩
  obtain ⟨j, a, b, c⟩ := famS_mem.1 h1
  have : q.1 ∈ famS 1 0 m := famS_mem.2 ⟨j, a, by omega, c⟩
  simp only [List.mem_cons]
  exact .inr (.inr (.inr (.inr this)))
structure PsOk (p : PS) (rs : List (Nat × List Prs)) : Prop where
 en : rs.map (fun x => x.2) = p.needs
 nl : p.needs.length = p.picks.length
 pl : p.picks.length ≤ 100000
 wl : p.wish.length ≤ 100000
 rl : ∀ r ∈ rs, r.2.length ≤ 100000
theorem entry_len {p p' : PS} {s : Bs} (he : entryV p s = some p') : p.needs.length ≤ p'.needs.length := by
 unfold entryV at he
 split at he
 ·split at he
  ·split at he
   ·cases he
   ·simp only [Option.some.injEq] at he
    subst he
    simp
  ·cases he
 ·split at he
  ·split at he
   ·split at he
    ·cases he
    ·split at he
     ·simp only [Option.some.injEq] at he
      subst he
      simp
     ·simp only [Option.some.injEq] at he
      subst he
      simp
   ·cases he
  ·cases he
set_option maxHeartbeats 8000000 in
theorem entry_ok (p p' : PS) (s : Bs) (gb gp gn gw : Nat) (rs : List (Nat × List Prs)) (hp : PsOk p rs) (hl : s.length ≤ 1000000) (h13 : p.part = 1 ∨ p.part = 3) (he : entryV p s = some p') :
  ACall Tryz.prog 103 [.ptr 900002 gb 0, dS s] (rdH p gb gp gn gw rs) (900002 :: 900003 :: 900004 :: 900005 :: famS 1 0 p'.needs.length)
   fun ps r => ∃ gp' gn' gw' rs', rs'.map (·.2) = p'.needs ∧ ps = (gb, .box [dI p'.part, .own 900003 gp', .own 900004 gn', .own 900005 gw', dS p'.sum]) :: (gp', .row 83 2 (p'.picks.map cP)) :: (gn', .row 43 1 (famO 1 0 rs')) :: (gw', .row 100 2 (p'.wish.map cP)) :: famP 100 2 mP rs' ∧ r = dB true := by 
 refine acall_of Tryz.func103 rfl rfl Tryz.ntmps103 (rs := [.tmp 4]) (tys := [4]) rfl rfl (by simp) ?_ ?_
 ·exact rdH_ok p gb gp gn gw rs _ (by have := entry_len he; have := congrArg List.length hp.en; simp only [List.length_map] at this; omega)
 have C4 := cutPre_spec s pre4 (by omega) (by decide)
 have C2 := cutPre_spec s pre2 (by omega) (by decide)
 obtain ⟨part, P, N, W, sum⟩ := p
 obtain ⟨hrs, hnl, hpl, hwl, hrl⟩ := hp
 simp only at hrs hnl hpl hwl hrl h13
 unfold entryV at he
 simp only at he
 (refine awp_sr fun KK hKK => ?_; simp [go_sem]; ((repeat' (first|(refine ag_x ?_;simp [go_sem])|intro _|refine And.intro ?_ ?_|(apply hKK;clear hKK KK)));all_goals first|refine Hold.mk ?_|omega|with_reducible assumption|skip))
 (refine awp_sr fun KK hKK => ?_; simp [go_sem]; ((repeat' (first|(refine ag_x ?_;simp [go_sem])|intro _|refine And.intro ?_ ?_|(apply hKK;clear hKK KK)));all_goals first|refine Hold.mk ?_|omega|with_reducible assumption|skip))
 refine awp_seq_k fun K1 hK1 => ?_
 (refine awp_sr fun KK hKK => ?_; simp [go_sem]; ((repeat' (first|(refine ag_x ?_;simp [go_sem])|intro _|refine And.intro ?_ ?_|(apply hKK;clear hKK KK)));all_goals first|refine Hold.mk ?_|omega|with_reducible assumption|skip))
 by_cases h4 : pre4.isPrefixOf s = true
 ·rw [if_pos h4] at he
  rw [if_pos h4, h4] at C4
  have D1 := named_spec (s.drop pre4.length) (by rw [List.length_drop]; omega)
  cases hn : nmdV (s.drop pre4.length) with
  | none =>
   rw [show s.drop 4 = s.drop pre4.length from rfl, hn] at he
   cases he
  | some x =>
   obtain ⟨n, i, b⟩ := x
   rw [show s.drop 4 = s.drop pre4.length from rfl, hn] at he
   simp only at he
   rw [named_some hn] at D1
   simp only at D1
   generalize s.drop pre4.length = s4 at *
   split at he
   ·cases he
   ·rename_i h5
    simp only [Option.some.injEq] at he
    subst he
    have h5a : ¬ part = 3 := fun q => h5 (.inl q)
    have h5b : ¬ (part : Int) = 3 := by omega
    have h5c : 0 < P.length := List.length_pos_iff.2 fun q => h5 (.inr q)
    have h5d : ¬ P = [] := fun q => h5 (.inr q)
    obtain ⟨k, hk⟩ : ∃ k, P.length = k + 1 := ⟨P.length - 1, by omega⟩
    have hrl2 := congrArg List.length hrs
    simp only [List.length_map] at hrl2
    obtain ⟨⟨gk, R⟩, hrk⟩ : ∃ x, rs[k]? = some x := ⟨_, List.getElem?_eq_getElem (by omega)⟩
    have hRl := hrl _ (List.mem_of_getElem? hrk)
    simp only at hRl
    have ek : ((k : Int) + 1 - 1).toNat = k := by omega
    have ek2 : (k : Int) + 1 - 1 = k := by omega
    ((try refine CallT.toA ?_); refine callT_m (by first | exact .inl ⟨rfl, rfl⟩ | exact .inr rfl) (by simp [go_sem]) ?_; intro args ha; simp [go_sem] at ha; subst ha; refine ⟨_, C4, ?_⟩; rintro _ rfl; simp [go_sem]; ((repeat' (first|(refine ag_x ?_;simp [go_sem])|intro _|refine And.intro ?_ ?_|(apply hKK;clear hKK KK)));all_goals first|refine Hold.mk ?_|omega|with_reducible assumption|skip))
    (refine awp_sr fun KK hKK => ?_; simp [go_sem]; ((repeat' (first|(refine ag_x ?_;simp [go_sem])|intro _|refine And.intro ?_ ?_|(apply hKK;clear hKK KK)));all_goals first|refine Hold.mk ?_|omega|with_reducible assumption|skip))
    (refine awp_if fun T F hT hF => ?_; simp [go_sem]; refine hT ?_; clear hT hF T F)
    (refine awp_sr fun KK hKK => ?_; simp [go_sem]; ((repeat' (first|(refine ag_x ?_;simp [go_sem])|intro _|refine And.intro ?_ ?_|(apply hKK;clear hKK KK)));all_goals first|refine Hold.mk ?_|omega|with_reducible assumption|skip))
    ((try refine CallT.toA ?_); refine callT_m (by first | exact .inl ⟨rfl, rfl⟩ | exact .inr rfl) (by simp [go_sem]) ?_; intro args ha; simp [go_sem] at ha; subst ha; refine ⟨_, D1, ?_⟩; rintro _ rfl; simp [go_sem]; ((repeat' (first|(refine ag_x ?_;simp [go_sem])|intro _|refine And.intro ?_ ?_|(apply hKK;clear hKK KK)));all_goals first|refine Hold.mk ?_|omega|with_reducible assumption|skip))
    refine awp_seq_k fun K3 hK3 => ?_
    (refine awp_sr fun KK hKK => ?_; simp [go_sem, h5a, h5b, h5d]; ((repeat' (first|(refine ag_x ?_;simp [go_sem, h5a, h5b, h5d])|intro _|refine And.intro ?_ ?_|(apply hKK;clear hKK KK)));all_goals first|refine Hold.mk ?_|omega|with_reducible assumption|skip))
    (refine awp_if fun T F hT hF => ?_; simp [go_sem, h5a, h5b, h5d]; refine hF ?_; clear hT hF T F)
    refine awp_skip ?_
    refine hK3 _ ?_; clear hK3
    refine awp_seq_k fun K5 hK5 => ?_
    have tl5 : ∀ S' g', Cov S' ⟨[(0, .ptr 900002 gb 0)], (900002, (gb, .box [dI part, .own 900003 gp, .own 900004 gn, .own 900005 gw, dS sum])) :: (900003, (gp, .row 83 2 (P.map cP))) :: (900004, (gn, .row 43 1 (famO 1 0 (rs.set k (g', R ++ [(n, i)]))))) :: (900005, (gw, .row 100 2 (W.map cP))) :: fam 1 100 2 mP 0 (rs.set k (g', R ++ [(n, i)]))⟩ → K5 S' := fun S' g' hS => by
     refine hK5 _ ?_; clear hK5
     refine awp_cov hS ?_; clear hS
     (refine awp_sr fun KK hKK => ?_; simp [go_sem]; ((repeat' (first|(refine ag_x ?_;simp [go_sem])|intro _|refine And.intro ?_ ?_|(apply hKK;clear hKK KK)));all_goals first|refine Hold.mk ?_|omega|with_reducible assumption|skip))
     (refine awp_ret ?_; simp [go_sem])
     have hsl : (rs.set k (g', R ++ [(n, i)])).length = N.length := by rw [List.length_set]; omega
     refine postK_fam (b := 1) (e := 100) (k := 2) (f := mP) (rs.set k (g', R ++ [(n, i)])) 0 N.length _ hsl (by simp [go_sem]) ?_
     refine ⟨gp, gn, gw, rs.set k (g', R ++ [(n, i)]), ?_, by simp⟩
     have hNk : N[k]? = some R := by rw [← hrs, List.getElem?_map, hrk]; rfl
     rw [hk, Nat.add_sub_cancel, hNk, List.map_set, hrs]
     rfl
    clear hK5
    ((refine awp_d (.qs [0, 1, 2, 3, 5, 6, 7, 8, 9, 10, 12, 13, 16, 17, 18] (.three 4 (.qs [11, 14, 15] (.kp 19 (.one 20 (.qs [21] (.one 22 (.nil)))))) 11 (.qs [14] (.three 4 (.qs [15] (.kp 19 (.one 20 (.qs [21] (.one 22 (.nil)))))) 15 (.two 4 (.kp 19 (.one 20 (.qs [21] (.one 22 (.nil))))) 19 (.kq 4 (.one 20 (.qs [21] (.one 22 (.nil)))) 20 (.qs [4, 21] (.one 22 (.nil))))) 19 (.qs [15] (.kq 4 (.one 20 (.qs [21] (.one 22 (.nil)))) 20 (.qs [4, 21] (.one 22 (.nil))))))) 19 (.qs [11, 14, 15] (.kq 4 (.one 20 (.qs [21] (.one 22 (.nil)))) 20 (.qs [4, 21] (.one 22 (.nil))))))) (by kernel_rfl) ?_ ?_ ?_ ?_); (kernel_rfl); (exact (by decide +kernel)); (kernel_rfl); intro KK hKK; ((repeat' (first|(refine ag_x ?_;simp [go_sem, hk, hrk, ek, ek2])|refine adr_nil ?_|refine adr_two ?_ ?_|refine adr_kq ?_ ?_|refine adr_three ?_ ?_ ?_|((first|refine adr_qs fun KK hKK=>?_|refine adr_y fun KK hKK=>?_);simp [go_sem, hk, hrk, ek, ek2])|intro _|refine And.intro ?_ ?_|(apply hKK;clear hKK KK)));all_goals first|refine Hold.mk ?_|omega|with_reducible assumption|skip))
    all_goals
     rename_i g'
     refine tl5 _ g' ?_
     have hfo := famO_setg (b := 1) rs k g' (R ++ [(n, i)])
     (refine cov_of ?_ ?_ <;> simp [go_sem, hfo])
     refine FamIn.set (by simp [go_sem]) (by simp)
 ·rw [if_neg h4] at he
  have h4' : pre4.isPrefixOf s = false := by
   cases h : pre4.isPrefixOf s with
   | false => rfl
   | true => exact absurd h h4
  rw [if_neg h4, h4'] at C4
  have hrl2 := congrArg List.length hrs
  simp only [List.length_map] at hrl2
  split at he
  ·rename_i h2
   rw [if_pos h2, h2] at C2
   have D1 := named_spec (s.drop pre2.length) (by rw [List.length_drop]; omega)
   cases hn : nmdV (s.drop pre2.length) with
   | none =>
    rw [show s.drop 2 = s.drop pre2.length from rfl, hn] at he
    cases he
   | some x =>
    obtain ⟨n, i, b⟩ := x
    rw [show s.drop 2 = s.drop pre2.length from rfl, hn] at he
    simp only at he
    rw [named_some hn] at D1
    simp only at D1
    generalize s.drop pre2.length = s2 at *
    ((try refine CallT.toA ?_); refine callT_m (by first | exact .inl ⟨rfl, rfl⟩ | exact .inr rfl) (by simp [go_sem]) ?_; intro args ha; simp [go_sem] at ha; subst ha; refine ⟨_, C4, ?_⟩; rintro _ rfl; simp [go_sem]; ((repeat' (first|(refine ag_x ?_;simp [go_sem])|refine adr_nil ?_|refine adr_two ?_ ?_|refine adr_kq ?_ ?_|refine adr_three ?_ ?_ ?_|((first|refine adr_qs fun KK hKK=>?_|refine adr_y fun KK hKK=>?_);simp [go_sem])|intro _|refine And.intro ?_ ?_|(apply hKK;clear hKK KK)));all_goals first|refine Hold.mk ?_|omega|with_reducible assumption|skip))
    (refine awp_sr fun KK hKK => ?_; simp [go_sem]; ((repeat' (first|(refine ag_x ?_;simp [go_sem])|intro _|refine And.intro ?_ ?_|(apply hKK;clear hKK KK)));all_goals first|refine Hold.mk ?_|omega|with_reducible assumption|skip))
    (refine awp_if fun T F hT hF => ?_; simp [go_sem]; refine hF ?_; clear hT hF T F)
    refine awp_skip ?_
    refine hK1 _ ?_; clear hK1
    (refine awp_sr fun KK hKK => ?_; simp [go_sem]; ((repeat' (first|(refine ag_x ?_;simp [go_sem])|intro _|refine And.intro ?_ ?_|(apply hKK;clear hKK KK)));all_goals first|refine Hold.mk ?_|omega|with_reducible assumption|skip))
    ((try refine CallT.toA ?_); refine callT_m (by first | exact .inl ⟨rfl, rfl⟩ | exact .inr rfl) (by simp [go_sem]) ?_; intro args ha; simp [go_sem] at ha; subst ha; refine ⟨_, C2, ?_⟩; rintro _ rfl; simp [go_sem]; ((repeat' (first|(refine ag_x ?_;simp [go_sem])|intro _|refine And.intro ?_ ?_|(apply hKK;clear hKK KK)));all_goals first|refine Hold.mk ?_|omega|with_reducible assumption|skip))
    (refine awp_sr fun KK hKK => ?_; simp [go_sem]; ((repeat' (first|(refine ag_x ?_;simp [go_sem])|intro _|refine And.intro ?_ ?_|(apply hKK;clear hKK KK)));all_goals first|refine Hold.mk ?_|omega|with_reducible assumption|skip))
    ((try refine CallT.toA ?_); refine callT_m (by first | exact .inl ⟨rfl, rfl⟩ | exact .inr rfl) (by simp [go_sem]) ?_; intro args ha; simp [go_sem] at ha; subst ha; refine ⟨_, D1, ?_⟩; rintro _ rfl; simp [go_sem]; ((repeat' (first|(refine ag_x ?_;simp [go_sem])|intro _|refine And.intro ?_ ?_|(apply hKK;clear hKK KK)));all_goals first|refine Hold.mk ?_|omega|with_reducible assumption|skip))
    refine awp_seq_k fun K5 hK5 => ?_
    rcases h13 with rfl | rfl
    ·cases b with
     | false => simp at he
     | true =>
      simp at he
      subst he
      have tl5 : ∀ S' gp' gn', Cov S' ⟨[(0, .ptr 900002 gb 0)], (900002, (gb, .box [dI 1, .own 900003 gp', .own 900004 gn', .own 900005 gw, dS sum])) :: (900003, (gp', .row 83 2 ((P ++ [(n, i)]).map cP))) :: (900004, (gn', .row 43 1 (famO 1 0 rs ++ [[.v (.slice none 0 0)]]))) :: (900005, (gw, .row 100 2 (W.map cP))) :: fam 1 100 2 mP 0 rs⟩ → K5 S' := fun S' gp' gn' hS => by
       refine hK5 _ ?_; clear hK5
       refine awp_cov hS ?_; clear hS
       refine awp_nilin (go := gn') (eo := 43) (ces := famO 1 0 rs ++ [[.v (.slice none 0 0)]]) (fs 1 rs.length) 900004 rs.length 100 2 (by simp [go_sem]) (fs_nlit (by decide)) (famO_open (m := 1) rs (by decide)) fun g => ?_
       have hfo : famO 1 0 rs ++ [[.own (fs 1 rs.length) g]] = famO 1 0 (rs ++ [(g, ([] : List Prs))]) := by rw [famO_snoc]; simp
       (refine awp_sr fun KK hKK => ?_; simp [go_sem]; ((repeat' (first|(refine ag_x ?_;simp [go_sem])|intro _|refine And.intro ?_ ?_|(apply hKK;clear hKK KK)));all_goals first|refine Hold.mk ?_|omega|with_reducible assumption|skip))
       (refine awp_ret ?_; simp [go_sem])
       rw [hfo]
       have hsl : (rs ++ [(g, ([] : List Prs))]).length = N.length + 1 := by simp; omega
       refine postK_fam (b := 1) (e := 100) (k := 2) (f := mP) (rs ++ [(g, [])]) 0 (N.length + 1) _ hsl (FamIn.lt (FamIn.snoc (by simp [go_sem]) rfl rfl) (by decide)) ?_
       refine ⟨gp', gn', gw, rs ++ [(g, [])], ?_, by simp⟩
       rw [List.map_append, hrs]
       rfl
      clear hK5
      refine awp_block ?_
      (refine awp_sr fun KK hKK => ?_; simp [go_sem]; ((repeat' (first|(refine ag_x ?_;simp [go_sem])|intro _|refine And.intro ?_ ?_|(apply hKK;clear hKK KK)));all_goals first|refine Hold.mk ?_|omega|with_reducible assumption|skip))
      (refine awp_if fun T F hT hF => ?_; simp [go_sem]; refine hF ?_; clear hT hF T F)
      (refine awp_sr fun KK hKK => ?_; simp [go_sem]; ((repeat' (first|(refine ag_x ?_;simp [go_sem])|intro _|refine And.intro ?_ ?_|(apply hKK;clear hKK KK)));all_goals first|refine Hold.mk ?_|omega|with_reducible assumption|skip))
      (refine awp_if fun T F hT hF => ?_; simp [go_sem]; refine hF ?_; clear hT hF T F)
      (refine awp_sr fun KK hKK => ?_; simp [go_sem]; ((repeat' (first|(refine ag_x ?_;simp [go_sem])|intro _|refine And.intro ?_ ?_|(apply hKK;clear hKK KK)));all_goals first|refine Hold.mk ?_|omega|with_reducible assumption|skip))
      (refine awp_r fun KK hKK => ?_; simp [go_sem]; ((repeat' (first|(refine ag_x ?_;simp [go_sem])|intro _|refine And.intro ?_ ?_|(apply hKK;clear hKK KK)));all_goals first|refine Hold.mk ?_|omega|with_reducible assumption|skip))
      rename_i ga gp' gc gn'
      refine tl5 _ gp' gn' ?_
      (refine cov_of ?_ ?_ <;> simp [go_sem])
    ·simp at he
     subst he
     have tl5 : ∀ S' gw', Cov S' ⟨[(0, .ptr 900002 gb 0)], (900002, (gb, .box [dI 3, .own 900003 gp, .own 900004 gn, .own 900005 gw', dS sum])) :: (900003, (gp, .row 83 2 (P.map cP))) :: (900004, (gn, .row 43 1 (famO 1 0 rs))) :: (900005, (gw', .row 100 2 ((W ++ [(n, i)]).map cP))) :: fam 1 100 2 mP 0 rs⟩ → K5 S' := fun S' gw' hS => by
      refine hK5 _ ?_; clear hK5
      refine awp_cov hS ?_; clear hS
      (refine awp_sr fun KK hKK => ?_; simp [go_sem]; ((repeat' (first|(refine ag_x ?_;simp [go_sem])|intro _|refine And.intro ?_ ?_|(apply hKK;clear hKK KK)));all_goals first|refine Hold.mk ?_|omega|with_reducible assumption|skip))
      (refine awp_ret ?_; simp [go_sem])
      refine postK_fam (b := 1) (e := 100) (k := 2) (f := mP) rs 0 N.length _ hrl2 (by simp [go_sem]) ?_
      exact ⟨gp, gn, gw', rs, hrs, by simp⟩
     clear hK5
     refine awp_block ?_
     (refine awp_sr fun KK hKK => ?_; simp [go_sem]; ((repeat' (first|(refine ag_false ?_ ?_ ?_;(focus (simp [go_sem, undef];done));(focus (simp [go_sem];done));simp [go_sem])|(refine ag_x ?_;simp [go_sem, undef])|intro _|refine And.intro ?_ ?_|(apply hKK;clear hKK KK)));all_goals first|refine Hold.mk ?_|omega|with_reducible assumption|skip))
     (refine awp_if fun T F hT hF => ?_; simp [go_sem]; refine hF ?_; clear hT hF T F)
     (refine awp_sr fun KK hKK => ?_; simp [go_sem]; ((repeat' (first|(refine ag_x ?_;simp [go_sem])|intro _|refine And.intro ?_ ?_|(apply hKK;clear hKK KK)));all_goals first|refine Hold.mk ?_|omega|with_reducible assumption|skip))
     (refine awp_if fun T F hT hF => ?_; simp [go_sem]; refine hT ?_; clear hT hF T F)
     (refine awp_r fun KK hKK => ?_; simp [go_sem]; ((repeat' (first|(refine ag_x ?_;simp [go_sem])|intro _|refine And.intro ?_ ?_|(apply hKK;clear hKK KK)));all_goals first|refine Hold.mk ?_|omega|with_reducible assumption|skip))
     rename_i ga gw'
     refine tl5 _ gw' ?_
     (refine cov_of ?_ ?_ <;> simp [go_sem])
  ·cases he
end Go.Proofs.YtchnagdaljblnaaGreatDoor

namespace Go.Proofs.YtchnagdaljblnaaGreatDoor
open Go.Eng Go.Wh Go.Ver Go.RowKit Go.Lk
set_option maxRecDepth 20000
attribute [local irreducible] AG CallA CallT AWp PCall ACall AgC
set_option maxHeartbeats 8000000 in
theorem entry_bad (p : PS) (s : Bs) (gb gp gn gw : Nat) (rs : List (Nat × List Prs)) (hp : PsOk p rs) (hl : s.length ≤ 1000000) (h13 : p.part = 1 ∨ p.part = 3) (he : entryV p s = none) :
  ACall Tryz.prog 103 [.ptr 900002 gb 0, dS s] (rdH p gb gp gn gw rs) (900002 :: 900003 :: 900004 :: 900005 :: famS 1 0 p.needs.length)
   fun ps r => ps = (gb, .box [dI p.part, .own 900003 gp, .own 900004 gn, .own 900005 gw, dS p.sum]) :: (gp, .row 83 2 (p.picks.map cP)) :: (gn, .row 43 1 (famO 1 0 rs)) :: (gw, .row 100 2 (p.wish.map cP)) :: famP 100 2 mP rs ∧ r = dB false := by 
 refine acall_of Tryz.func103 rfl rfl Tryz.ntmps103 (rs := [.tmp 4]) (tys := [4]) rfl rfl (by simp) ?_ ?_
 ·exact rdH_ok p gb gp gn gw rs _ (by have := congrArg List.length hp.en; simp only [List.length_map] at this; omega)
 have C4 := cutPre_spec s pre4 (by omega) (by decide)
 have C2 := cutPre_spec s pre2 (by omega) (by decide)
 obtain ⟨part, P, N, W, sum⟩ := p
 obtain ⟨hrs, hnl, hpl, hwl, hrl⟩ := hp
 simp only at hrs hnl hpl hwl hrl h13
 have hrl2 := congrArg List.length hrs
 simp only [List.length_map] at hrl2
 unfold entryV at he
 simp only at he
 (refine awp_sr fun KK hKK => ?_; simp [go_sem]; ((repeat' (first|(refine ag_x ?_;simp [go_sem])|intro _|refine And.intro ?_ ?_|(apply hKK;clear hKK KK)));all_goals first|refine Hold.mk ?_|omega|with_reducible assumption|skip))
 (refine awp_sr fun KK hKK => ?_; simp [go_sem]; ((repeat' (first|(refine ag_x ?_;simp [go_sem])|intro _|refine And.intro ?_ ?_|(apply hKK;clear hKK KK)));all_goals first|refine Hold.mk ?_|omega|with_reducible assumption|skip))
 refine awp_seq_k fun K1 hK1 => ?_
 (refine awp_sr fun KK hKK => ?_; simp [go_sem]; ((repeat' (first|(refine ag_x ?_;simp [go_sem])|intro _|refine And.intro ?_ ?_|(apply hKK;clear hKK KK)));all_goals first|refine Hold.mk ?_|omega|with_reducible assumption|skip))
 by_cases h4 : pre4.isPrefixOf s = true
 ·rw [if_pos h4] at he
  rw [if_pos h4, h4] at C4
  have D1 := named_spec (s.drop pre4.length) (by rw [List.length_drop]; omega)
  have hnn := @named_none (s.drop pre4.length)
  have hns := fun n i b => @named_some (s.drop pre4.length) n i b
  rw [show s.drop 4 = s.drop pre4.length from rfl] at he
  generalize s.drop pre4.length = s4 at *
  generalize namedP s4 = q at *
  obtain ⟨q1, q2, q3, q4⟩ := q
  simp only at D1 hnn hns
  ((try refine CallT.toA ?_); refine callT_m (by first | exact .inl ⟨rfl, rfl⟩ | exact .inr rfl) (by simp [go_sem]) ?_; intro args ha; simp [go_sem] at ha; subst ha; refine ⟨_, C4, ?_⟩; rintro _ rfl; simp [go_sem]; ((repeat' (first|(refine ag_x ?_;simp [go_sem])|intro _|refine And.intro ?_ ?_|(apply hKK;clear hKK KK)));all_goals first|refine Hold.mk ?_|omega|with_reducible assumption|skip))
  (refine awp_sr fun KK hKK => ?_; simp [go_sem]; ((repeat' (first|(refine ag_x ?_;simp [go_sem])|intro _|refine And.intro ?_ ?_|(apply hKK;clear hKK KK)));all_goals first|refine Hold.mk ?_|omega|with_reducible assumption|skip))
  (refine awp_if fun T F hT hF => ?_; simp [go_sem]; refine hT ?_; clear hT hF T F)
  (refine awp_sr fun KK hKK => ?_; simp [go_sem]; ((repeat' (first|(refine ag_x ?_;simp [go_sem])|intro _|refine And.intro ?_ ?_|(apply hKK;clear hKK KK)));all_goals first|refine Hold.mk ?_|omega|with_reducible assumption|skip))
  ((try refine CallT.toA ?_); refine callT_m (by first | exact .inl ⟨rfl, rfl⟩ | exact .inr rfl) (by simp [go_sem]) ?_; intro args ha; simp [go_sem] at ha; subst ha; refine ⟨_, D1, ?_⟩; rintro _ rfl; simp [go_sem]; ((repeat' (first|(refine ag_x ?_;simp [go_sem])|intro _|refine And.intro ?_ ?_|(apply hKK;clear hKK KK)));all_goals first|refine Hold.mk ?_|omega|with_reducible assumption|skip))
  refine awp_seq_k fun K3 hK3 => ?_
  cases hn : nmdV s4 with
  | none =>
   have := hnn hn
   subst this
   (refine awp_sr fun KK hKK => ?_; simp [go_sem]; ((repeat' (first|(refine ag_false ?_ ?_ ?_;(focus (simp [go_sem, undef];done));(focus (simp [go_sem];done));simp [go_sem])|(refine ag_x ?_;simp [go_sem, undef])|intro _|refine And.intro ?_ ?_|(apply hKK;clear hKK KK)));all_goals first|refine Hold.mk ?_|omega|with_reducible assumption|skip))
   (refine awp_if fun T F hT hF => ?_; simp [go_sem]; refine hT ?_; clear hT hF T F)
   (refine awp_sr fun KK hKK => ?_; simp [go_sem]; ((repeat' (first|(refine ag_x ?_;simp [go_sem])|intro _|refine And.intro ?_ ?_|(apply hKK;clear hKK KK)));all_goals first|refine Hold.mk ?_|omega|with_reducible assumption|skip))
   (refine awp_ret ?_; simp [go_sem])
   exact postK_fam (b := 1) (e := 100) (k := 2) (f := mP) rs 0 N.length _ hrl2 (by simp [go_sem]) (by simp)
  | some x =>
   obtain ⟨n, i, b⟩ := x
   have := hns n i b hn
   simp only [Prod.mk.injEq] at this
   obtain ⟨rfl, rfl, rfl, rfl⟩ := this
   rw [hn] at he
   simp only at he
   split at he
   ·rename_i h5
    rcases h13 with rfl | rfl
    ·have h5b : P = [] := by
      rcases h5 with h | h
      ·cases h
      ·exact h
     subst h5b
     (refine awp_sr fun KK hKK => ?_; simp [go_sem]; ((repeat' (first|(refine ag_x ?_;simp [go_sem])|intro _|refine And.intro ?_ ?_|(apply hKK;clear hKK KK)));all_goals first|refine Hold.mk ?_|omega|with_reducible assumption|skip))
     (refine awp_if fun T F hT hF => ?_; simp [go_sem]; refine hT ?_; clear hT hF T F)
     (refine awp_sr fun KK hKK => ?_; simp [go_sem]; ((repeat' (first|(refine ag_x ?_;simp [go_sem])|intro _|refine And.intro ?_ ?_|(apply hKK;clear hKK KK)));all_goals first|refine Hold.mk ?_|omega|with_reducible assumption|skip))
     (refine awp_ret ?_; simp [go_sem])
     exact postK_fam (b := 1) (e := 100) (k := 2) (f := mP) rs 0 N.length _ hrl2 (by simp [go_sem]) (by simp)
    ·(refine awp_sr fun KK hKK => ?_; simp [go_sem]; ((repeat' (first|(refine ag_false ?_ ?_ ?_;(focus (simp [go_sem, undef];done));(focus (simp [go_sem];done));simp [go_sem])|(refine ag_x ?_;simp [go_sem, undef])|intro _|refine And.intro ?_ ?_|(apply hKK;clear hKK KK)));all_goals first|refine Hold.mk ?_|omega|with_reducible assumption|skip))
     (refine awp_if fun T F hT hF => ?_; simp [go_sem]; refine hT ?_; clear hT hF T F)
     (refine awp_sr fun KK hKK => ?_; simp [go_sem]; ((repeat' (first|(refine ag_x ?_;simp [go_sem])|intro _|refine And.intro ?_ ?_|(apply hKK;clear hKK KK)));all_goals first|refine Hold.mk ?_|omega|with_reducible assumption|skip))
     (refine awp_ret ?_; simp [go_sem])
     exact postK_fam (b := 1) (e := 100) (k := 2) (f := mP) rs 0 N.length _ hrl2 (by simp [go_sem]) (by simp)
   ·cases he
 ·rw [if_neg h4] at he
  have h4' : pre4.isPrefixOf s = false := by
   cases h : pre4.isPrefixOf s with
   | false => rfl
   | true => exact absurd h h4
  rw [if_neg h4, h4'] at C4
  by_cases h2 : pre2.isPrefixOf s = true
  ·rw [if_pos h2] at he
   rw [if_pos h2, h2] at C2
   have D1 := named_spec (s.drop pre2.length) (by rw [List.length_drop]; omega)
   have hnn := @named_none (s.drop pre2.length)
   have hns := fun n i b => @named_some (s.drop pre2.length) n i b
   rw [show s.drop 2 = s.drop pre2.length from rfl] at he
   generalize s.drop pre2.length = s2 at *
   generalize namedP s2 = q at *
   obtain ⟨q1, q2, q3, q4⟩ := q
   simp only at D1 hnn hns
   ((try refine CallT.toA ?_); refine callT_m (by first | exact .inl ⟨rfl, rfl⟩ | exact .inr rfl) (by simp [go_sem]) ?_; intro args ha; simp [go_sem] at ha; subst ha; refine ⟨_, C4, ?_⟩; rintro _ rfl; simp [go_sem]; ((repeat' (first|(refine ag_x ?_;simp [go_sem])|intro _|refine And.intro ?_ ?_|(apply hKK;clear hKK KK)));all_goals first|refine Hold.mk ?_|omega|with_reducible assumption|skip))
   (refine awp_sr fun KK hKK => ?_; simp [go_sem]; ((repeat' (first|(refine ag_x ?_;simp [go_sem])|intro _|refine And.intro ?_ ?_|(apply hKK;clear hKK KK)));all_goals first|refine Hold.mk ?_|omega|with_reducible assumption|skip))
   (refine awp_if fun T F hT hF => ?_; simp [go_sem]; refine hF ?_; clear hT hF T F)
   refine awp_skip ?_
   refine hK1 _ ?_; clear hK1
   (refine awp_sr fun KK hKK => ?_; simp [go_sem]; ((repeat' (first|(refine ag_x ?_;simp [go_sem])|intro _|refine And.intro ?_ ?_|(apply hKK;clear hKK KK)));all_goals first|refine Hold.mk ?_|omega|with_reducible assumption|skip))
   ((try refine CallT.toA ?_); refine callT_m (by first | exact .inl ⟨rfl, rfl⟩ | exact .inr rfl) (by simp [go_sem]) ?_; intro args ha; simp [go_sem] at ha; subst ha; refine ⟨_, C2, ?_⟩; rintro _ rfl; simp [go_sem]; ((repeat' (first|(refine ag_x ?_;simp [go_sem])|intro _|refine And.intro ?_ ?_|(apply hKK;clear hKK KK)));all_goals first|refine Hold.mk ?_|omega|with_reducible assumption|skip))
   (refine awp_sr fun KK hKK => ?_; simp [go_sem]; ((repeat' (first|(refine ag_x ?_;simp [go_sem])|intro _|refine And.intro ?_ ?_|(apply hKK;clear hKK KK)));all_goals first|refine Hold.mk ?_|omega|with_reducible assumption|skip))
   ((try refine CallT.toA ?_); refine callT_m (by first | exact .inl ⟨rfl, rfl⟩ | exact .inr rfl) (by simp [go_sem]) ?_; intro args ha; simp [go_sem] at ha; subst ha; refine ⟨_, D1, ?_⟩; rintro _ rfl; simp [go_sem]; ((repeat' (first|(refine ag_x ?_;simp [go_sem])|intro _|refine And.intro ?_ ?_|(apply hKK;clear hKK KK)));all_goals first|refine Hold.mk ?_|omega|with_reducible assumption|skip))
   refine awp_seq_k fun K5 hK5 => ?_
   cases hn : nmdV s2 with
   | none =>
    have := hnn hn
    subst this
    refine awp_block ?_
    (refine awp_sr fun KK hKK => ?_; simp [go_sem, undef]; ((repeat' (first|(refine ag_false ?_ ?_ ?_;(focus (simp [go_sem, undef, undef];done));(focus (simp [go_sem];done));simp [go_sem, undef])|(refine ag_x ?_;simp [go_sem, undef, undef])|intro _|refine And.intro ?_ ?_|(apply hKK;clear hKK KK)));all_goals first|refine Hold.mk ?_|omega|with_reducible assumption|skip))
    (refine awp_if fun T F hT hF => ?_; simp [go_sem]; refine hT ?_; clear hT hF T F)
    (refine awp_sr fun KK hKK => ?_; simp [go_sem]; ((repeat' (first|(refine ag_x ?_;simp [go_sem])|intro _|refine And.intro ?_ ?_|(apply hKK;clear hKK KK)));all_goals first|refine Hold.mk ?_|omega|with_reducible assumption|skip))
    (refine awp_ret ?_; simp [go_sem])
    exact postK_fam (b := 1) (e := 100) (k := 2) (f := mP) rs 0 N.length _ hrl2 (by simp [go_sem]) (by simp)
   | some x =>
    obtain ⟨n, i, b⟩ := x
    have := hns n i b hn
    simp only [Prod.mk.injEq] at this
    obtain ⟨rfl, rfl, rfl, rfl⟩ := this
    rw [hn] at he
    rcases h13 with rfl | rfl
    ·cases q3 with
     | true => simp at he
     | false =>
      refine awp_block ?_
      (refine awp_sr fun KK hKK => ?_; simp [go_sem]; ((repeat' (first|(refine ag_x ?_;simp [go_sem])|intro _|refine And.intro ?_ ?_|(apply hKK;clear hKK KK)));all_goals first|refine Hold.mk ?_|omega|with_reducible assumption|skip))
      (refine awp_if fun T F hT hF => ?_; simp [go_sem]; refine hT ?_; clear hT hF T F)
      (refine awp_sr fun KK hKK => ?_; simp [go_sem]; ((repeat' (first|(refine ag_x ?_;simp [go_sem])|intro _|refine And.intro ?_ ?_|(apply hKK;clear hKK KK)));all_goals first|refine Hold.mk ?_|omega|with_reducible assumption|skip))
      (refine awp_ret ?_; simp [go_sem])
      exact postK_fam (b := 1) (e := 100) (k := 2) (f := mP) rs 0 N.length _ hrl2 (by simp [go_sem]) (by simp)
    ·simp at he
  ·have h2' : pre2.isPrefixOf s = false := by
    cases h : pre2.isPrefixOf s with
    | false => rfl
    | true => exact absurd h h2
   rw [if_neg h2, h2'] at C2
   have D1 := named_spec s (by omega)
   generalize namedP s = q at *
   obtain ⟨q1, q2, q3, q4⟩ := q
   ((try refine CallT.toA ?_); refine callT_m (by first | exact .inl ⟨rfl, rfl⟩ | exact .inr rfl) (by simp [go_sem]) ?_; intro args ha; simp [go_sem] at ha; subst ha; refine ⟨_, C4, ?_⟩; rintro _ rfl; simp [go_sem]; ((repeat' (first|(refine ag_x ?_;simp [go_sem])|intro _|refine And.intro ?_ ?_|(apply hKK;clear hKK KK)));all_goals first|refine Hold.mk ?_|omega|with_reducible assumption|skip))
   (refine awp_sr fun KK hKK => ?_; simp [go_sem]; ((repeat' (first|(refine ag_x ?_;simp [go_sem])|intro _|refine And.intro ?_ ?_|(apply hKK;clear hKK KK)));all_goals first|refine Hold.mk ?_|omega|with_reducible assumption|skip))
   (refine awp_if fun T F hT hF => ?_; simp [go_sem]; refine hF ?_; clear hT hF T F)
   refine awp_skip ?_
   refine hK1 _ ?_; clear hK1
   (refine awp_sr fun KK hKK => ?_; simp [go_sem]; ((repeat' (first|(refine ag_x ?_;simp [go_sem])|intro _|refine And.intro ?_ ?_|(apply hKK;clear hKK KK)));all_goals first|refine Hold.mk ?_|omega|with_reducible assumption|skip))
   ((try refine CallT.toA ?_); refine callT_m (by first | exact .inl ⟨rfl, rfl⟩ | exact .inr rfl) (by simp [go_sem]) ?_; intro args ha; simp [go_sem] at ha; subst ha; refine ⟨_, C2, ?_⟩; rintro _ rfl; simp [go_sem]; ((repeat' (first|(refine ag_x ?_;simp [go_sem])|intro _|refine And.intro ?_ ?_|(apply hKK;clear hKK KK)));all_goals first|refine Hold.mk ?_|omega|with_reducible assumption|skip))
   (refine awp_sr fun KK hKK => ?_; simp [go_sem]; ((repeat' (first|(refine ag_x ?_;simp [go_sem])|intro _|refine And.intro ?_ ?_|(apply hKK;clear hKK KK)));all_goals first|refine Hold.mk ?_|omega|with_reducible assumption|skip))
   ((try refine CallT.toA ?_); refine callT_m (by first | exact .inl ⟨rfl, rfl⟩ | exact .inr rfl) (by simp [go_sem]) ?_; intro args ha; simp [go_sem] at ha; subst ha; refine ⟨_, D1, ?_⟩; rintro _ rfl; simp [go_sem]; ((repeat' (first|(refine ag_x ?_;simp [go_sem])|intro _|refine And.intro ?_ ?_|(apply hKK;clear hKK KK)));all_goals first|refine Hold.mk ?_|omega|with_reducible assumption|skip))
   refine awp_seq_k fun K5 hK5 => ?_
   refine awp_block ?_
   (refine awp_sr fun KK hKK => ?_; simp [go_sem, undef]; ((repeat' (first|(refine ag_false ?_ ?_ ?_;(focus (simp [go_sem, undef, undef];done));(focus (simp [go_sem];done));simp [go_sem, undef])|(refine ag_x ?_;simp [go_sem, undef, undef])|intro _|refine And.intro ?_ ?_|(apply hKK;clear hKK KK)));all_goals first|refine Hold.mk ?_|omega|with_reducible assumption|skip))
   (refine awp_if fun T F hT hF => ?_; simp [go_sem]; refine hT ?_; clear hT hF T F)
   (refine awp_sr fun KK hKK => ?_; simp [go_sem]; ((repeat' (first|(refine ag_x ?_;simp [go_sem])|intro _|refine And.intro ?_ ?_|(apply hKK;clear hKK KK)));all_goals first|refine Hold.mk ?_|omega|with_reducible assumption|skip))
   (refine awp_ret ?_; simp [go_sem])
   exact postK_fam (b := 1) (e := 100) (k := 2) (f := mP) rs 0 N.length _ hrl2 (by simp [go_sem]) (by simp)
end Go.Proofs.YtchnagdaljblnaaGreatDoor

namespace Go.Proofs.YtchnagdaljblnaaGreatDoor
open Go.Eng Go.Wh Go.Ver Go.RowKit Go.Lk
set_option maxRecDepth 20000
attribute [local irreducible] AG CallA CallT AWp PCall ACall AgC
theorem line_len {p p' : PS} {s : Bs} (he : lineV p s = some p') : p.needs.length ≤ p'.needs.length := by
 unfold lineV at he
 split at he
 ·split at he
  ·simp only [Option.some.injEq] at he; subst he; exact Nat.le_refl _
  ·cases he
 ·split at he
  ·simp only [Option.some.injEq] at he; subst he; exact Nat.le_refl _
  ·exact entry_len he
 ·split at he
  ·simp only [Option.some.injEq] at he; subst he; exact Nat.le_refl _
  ·cases he
 ·split at he
  ·simp only [Option.some.injEq] at he; subst he; exact Nat.le_refl _
  ·exact entry_len he
 ·split at he
  ·simp only [Option.some.injEq] at he; subst he; exact Nat.le_refl _
  ·cases he
 ·cases he
set_option maxHeartbeats 8000000 in
theorem line1_ok (P W : List Prs) (N : List (List Prs)) (sum : Bs) (p' : PS) (s : Bs) (gb gp gn gw : Nat) (rs : List (Nat × List Prs)) (hp : PsOk ⟨1, P, N, W, sum⟩ rs) (hl : s.length ≤ 1000000) (he : lineV ⟨1, P, N, W, sum⟩ s = some p') :
  ACall Tryz.prog 68 [.ptr 900002 gb 0, dS s] (rdH ⟨1, P, N, W, sum⟩ gb gp gn gw rs) (900002 :: 900003 :: 900004 :: 900005 :: famS 1 0 p'.needs.length)
   fun ps r => ∃ gp' gn' gw' rs', rs'.map (·.2) = p'.needs ∧ ps = (gb, .box [dI p'.part, .own 900003 gp', .own 900004 gn', .own 900005 gw', dS p'.sum]) :: (gp', .row 83 2 (p'.picks.map cP)) :: (gn', .row 43 1 (famO 1 0 rs')) :: (gw', .row 100 2 (p'.wish.map cP)) :: famP 100 2 mP rs' ∧ r = dB true := by 
 refine acall_of Tryz.func68 rfl rfl Tryz.ntmps68 (rs := [.tmp 4]) (tys := [4]) rfl rfl (by simp) ?_ ?_
 ·exact rdH_ok _ gb gp gn gw rs _ (by have h1 := line_len he; have h2 := congrArg List.length hp.en; simp only [List.length_map] at h1 h2; omega)
 have hq := hp
 obtain ⟨hrs, hnl, hpl, hwl, hrl⟩ := hp
 simp only at hrs hnl hpl hwl hrl
 have hrl2 := congrArg List.length hrs
 simp only [List.length_map] at hrl2
 simp only [lineV] at he
 (refine awp_sr fun KK hKK => ?_; simp [go_sem]; ((repeat' (first|(refine ag_x ?_;simp [go_sem])|intro _|refine And.intro ?_ ?_|(apply hKK;clear hKK KK)));all_goals first|refine Hold.mk ?_|omega|with_reducible assumption|skip))
 refine awp_seq_k fun K1 hK1 => ?_
 (refine awp_sr fun KK hKK => ?_; simp [go_sem]; ((repeat' (first|(refine ag_x ?_;simp [go_sem])|intro _|refine And.intro ?_ ?_|(apply hKK;clear hKK KK)));all_goals first|refine Hold.mk ?_|omega|with_reducible assumption|skip))
 refine awp_block ?_
 refine awp_seq_k fun K2 hK2 => ?_
 (refine awp_sr fun KK hKK => ?_; simp [go_sem]; ((repeat' (first|(refine ag_x ?_;simp [go_sem])|intro _|refine And.intro ?_ ?_|(apply hKK;clear hKK KK)));all_goals first|refine Hold.mk ?_|omega|with_reducible assumption|skip))
 (refine awp_if fun T F hT hF => ?_; simp [go_sem]; refine hF ?_; clear hT hF T F)
 (refine awp_r fun KK hKK => ?_; simp [go_sem]; ((repeat' (first|(refine ag_x ?_;simp [go_sem])|intro _|refine And.intro ?_ ?_|(apply hKK;clear hKK KK)));all_goals first|refine Hold.mk ?_|omega|with_reducible assumption|skip))
 refine hK2 _ ?_; clear hK2
 (refine awp_if fun T F hT hF => ?_; simp [go_sem]; refine hF ?_; clear hT hF T F)
 refine awp_seq_k fun K4 hK4 => ?_
 (refine awp_sr fun KK hKK => ?_; simp [go_sem]; ((repeat' (first|(refine ag_x ?_;simp [go_sem])|intro _|refine And.intro ?_ ?_|(apply hKK;clear hKK KK)));all_goals first|refine Hold.mk ?_|omega|with_reducible assumption|skip))
 (refine awp_if fun T F hT hF => ?_; simp [go_sem]; refine hT ?_; clear hT hF T F)
 refine awp_skip ?_
 refine hK4 _ ?_; clear hK4
 (refine awp_if fun T F hT hF => ?_; simp [go_sem]; refine hT ?_; clear hT hF T F)
 refine awp_seq_k fun K6 hK6 => ?_
 split at he
 ·rename_i h1
  subst h1
  simp only [Option.some.injEq] at he
  subst he
  (refine awp_sr fun KK hKK => ?_; simp [go_sem]; ((repeat' (first|(refine ag_x ?_;simp [go_sem])|intro _|refine And.intro ?_ ?_|(apply hKK;clear hKK KK)));all_goals first|refine Hold.mk ?_|omega|with_reducible assumption|skip))
  (refine awp_if fun T F hT hF => ?_; simp [go_sem]; refine hT ?_; clear hT hF T F)
  (refine awp_sr fun KK hKK => ?_; simp [go_sem]; ((repeat' (first|(refine ag_x ?_;simp [go_sem])|intro _|refine And.intro ?_ ?_|(apply hKK;clear hKK KK)));all_goals first|refine Hold.mk ?_|omega|with_reducible assumption|skip))
  (refine awp_sr fun KK hKK => ?_; simp [go_sem]; ((repeat' (first|(refine ag_x ?_;simp [go_sem])|intro _|refine And.intro ?_ ?_|(apply hKK;clear hKK KK)));all_goals first|refine Hold.mk ?_|omega|with_reducible assumption|skip))
  (refine awp_ret ?_; simp [go_sem])
  refine postK_fam (b := 1) (e := 100) (k := 2) (f := mP) rs 0 N.length _ hrl2 (by simp [go_sem]) ?_
  exact ⟨gp, gn, gw, rs, hrs, by simp⟩
 ·rename_i h1
  have h1' : s.isEmpty = false := by cases s with
   | nil => exact absurd rfl h1
   | cons => rfl
  (refine awp_sr fun KK hKK => ?_; simp [go_sem]; ((repeat' (first|(refine ag_x ?_;simp [go_sem])|intro _|refine And.intro ?_ ?_|(apply hKK;clear hKK KK)));all_goals first|refine Hold.mk ?_|omega|with_reducible assumption|skip))
  (refine awp_if fun T F hT hF => ?_; simp [go_sem, h1, h1']; refine hF ?_; clear hT hF T F)
  refine awp_skip ?_
  refine hK6 _ ?_; clear hK6
  (refine awp_sr fun KK hKK => ?_; simp [go_sem]; ((repeat' (first|(refine ag_x ?_;simp [go_sem])|intro _|refine And.intro ?_ ?_|(apply hKK;clear hKK KK)));all_goals first|refine Hold.mk ?_|omega|with_reducible assumption|skip))
  (refine callA_l (900002 :: 900003 :: 900004 :: 900005 :: famS 1 0 p'.needs.length) (by first | exact .inl ⟨rfl, rfl⟩ | exact .inr rfl) (by simp [go_sem]) ?_; intro args ha; simp [go_sem] at ha; subst ha; refine ⟨_, _, (entry_ok _ _ s gb gp gn gw rs hq hl (.inl rfl) he), (by simp [go_sem]), ?_⟩; rintro ps r hps ⟨gp', gn', gw', rs', hrs', rfl, rfl⟩; simp [go_sem]; ((repeat' (first|(refine ag_x ?_;simp [go_sem])|intro _|refine And.intro ?_ ?_|(apply hKK;clear hKK KK)));all_goals first|refine Hold.mk ?_|omega|with_reducible assumption|skip))
  have hsl := congrArg List.length hrs'
  simp only [List.length_map] at hsl
  rw [putPs_fam (b := 1) (e := 100) (k := 2) (f := mP) rs' 0 _ hsl]
  (refine awp_ret ?_; simp [go_sem])
  refine postK_fam (b := 1) (e := 100) (k := 2) (f := mP) rs' 0 _ _ hsl (by simp [go_sem]; exact FamIn.app _ _) ?_
  exact ⟨gp', gn', gw', rs', hrs', by simp⟩
set_option maxHeartbeats 8000000 in
theorem line3_ok (P W : List Prs) (N : List (List Prs)) (sum : Bs) (p' : PS) (s : Bs) (gb gp gn gw : Nat) (rs : List (Nat × List Prs)) (hp : PsOk ⟨3, P, N, W, sum⟩ rs) (hl : s.length ≤ 1000000) (he : lineV ⟨3, P, N, W, sum⟩ s = some p') :
  ACall Tryz.prog 68 [.ptr 900002 gb 0, dS s] (rdH ⟨3, P, N, W, sum⟩ gb gp gn gw rs) (900002 :: 900003 :: 900004 :: 900005 :: famS 1 0 p'.needs.length)
   fun ps r => ∃ gp' gn' gw' rs', rs'.map (·.2) = p'.needs ∧ ps = (gb, .box [dI p'.part, .own 900003 gp', .own 900004 gn', .own 900005 gw', dS p'.sum]) :: (gp', .row 83 2 (p'.picks.map cP)) :: (gn', .row 43 1 (famO 1 0 rs')) :: (gw', .row 100 2 (p'.wish.map cP)) :: famP 100 2 mP rs' ∧ r = dB true := by 
 refine acall_of Tryz.func68 rfl rfl Tryz.ntmps68 (rs := [.tmp 4]) (tys := [4]) rfl rfl (by simp) ?_ ?_
 ·exact rdH_ok _ gb gp gn gw rs _ (by have h1 := line_len he; have h2 := congrArg List.length hp.en; simp only [List.length_map] at h1 h2; omega)
 have hq := hp
 obtain ⟨hrs, hnl, hpl, hwl, hrl⟩ := hp
 simp only at hrs hnl hpl hwl hrl
 have hrl2 := congrArg List.length hrs
 simp only [List.length_map] at hrl2
 simp only [lineV] at he
 (refine awp_sr fun KK hKK => ?_; simp [go_sem]; ((repeat' (first|(refine ag_x ?_;simp [go_sem])|intro _|refine And.intro ?_ ?_|(apply hKK;clear hKK KK)));all_goals first|refine Hold.mk ?_|omega|with_reducible assumption|skip))
 refine awp_seq_k fun K1 hK1 => ?_
 (refine awp_sr fun KK hKK => ?_; simp [go_sem]; ((repeat' (first|(refine ag_x ?_;simp [go_sem])|intro _|refine And.intro ?_ ?_|(apply hKK;clear hKK KK)));all_goals first|refine Hold.mk ?_|omega|with_reducible assumption|skip))
 refine awp_block ?_
 refine awp_seq_k fun K2 hK2 => ?_
 (refine awp_sr fun KK hKK => ?_; simp [go_sem]; ((repeat' (first|(refine ag_x ?_;simp [go_sem])|intro _|refine And.intro ?_ ?_|(apply hKK;clear hKK KK)));all_goals first|refine Hold.mk ?_|omega|with_reducible assumption|skip))
 (refine awp_if fun T F hT hF => ?_; simp [go_sem]; refine hF ?_; clear hT hF T F)
 (refine awp_r fun KK hKK => ?_; simp [go_sem]; ((repeat' (first|(refine ag_x ?_;simp [go_sem])|intro _|refine And.intro ?_ ?_|(apply hKK;clear hKK KK)));all_goals first|refine Hold.mk ?_|omega|with_reducible assumption|skip))
 refine hK2 _ ?_; clear hK2
 (refine awp_if fun T F hT hF => ?_; simp [go_sem]; refine hF ?_; clear hT hF T F)
 refine awp_seq_k fun K4 hK4 => ?_
 (refine awp_sr fun KK hKK => ?_; simp [go_sem]; ((repeat' (first|(refine ag_x ?_;simp [go_sem])|intro _|refine And.intro ?_ ?_|(apply hKK;clear hKK KK)));all_goals first|refine Hold.mk ?_|omega|with_reducible assumption|skip))
 (refine awp_if fun T F hT hF => ?_; simp [go_sem]; refine hF ?_; clear hT hF T F)
 (refine awp_r fun KK hKK => ?_; simp [go_sem]; ((repeat' (first|(refine ag_x ?_;simp [go_sem])|intro _|refine And.intro ?_ ?_|(apply hKK;clear hKK KK)));all_goals first|refine Hold.mk ?_|omega|with_reducible assumption|skip))
 refine hK4 _ ?_; clear hK4
 (refine awp_if fun T F hT hF => ?_; simp [go_sem]; refine hT ?_; clear hT hF T F)
 refine awp_seq_k fun K6 hK6 => ?_
 split at he
 ·rename_i h1
  subst h1
  simp only [Option.some.injEq] at he
  subst he
  (refine awp_sr fun KK hKK => ?_; simp [go_sem]; ((repeat' (first|(refine ag_x ?_;simp [go_sem])|intro _|refine And.intro ?_ ?_|(apply hKK;clear hKK KK)));all_goals first|refine Hold.mk ?_|omega|with_reducible assumption|skip))
  (refine awp_if fun T F hT hF => ?_; simp [go_sem]; refine hT ?_; clear hT hF T F)
  (refine awp_sr fun KK hKK => ?_; simp [go_sem]; ((repeat' (first|(refine ag_x ?_;simp [go_sem])|intro _|refine And.intro ?_ ?_|(apply hKK;clear hKK KK)));all_goals first|refine Hold.mk ?_|omega|with_reducible assumption|skip))
  (refine awp_sr fun KK hKK => ?_; simp [go_sem]; ((repeat' (first|(refine ag_x ?_;simp [go_sem])|intro _|refine And.intro ?_ ?_|(apply hKK;clear hKK KK)));all_goals first|refine Hold.mk ?_|omega|with_reducible assumption|skip))
  (refine awp_ret ?_; simp [go_sem])
  refine postK_fam (b := 1) (e := 100) (k := 2) (f := mP) rs 0 N.length _ hrl2 (by simp [go_sem]) ?_
  exact ⟨gp, gn, gw, rs, hrs, by simp⟩
 ·rename_i h1
  have h1' : s.isEmpty = false := by cases s with
   | nil => exact absurd rfl h1
   | cons => rfl
  (refine awp_sr fun KK hKK => ?_; simp [go_sem]; ((repeat' (first|(refine ag_x ?_;simp [go_sem])|intro _|refine And.intro ?_ ?_|(apply hKK;clear hKK KK)));all_goals first|refine Hold.mk ?_|omega|with_reducible assumption|skip))
  (refine awp_if fun T F hT hF => ?_; simp [go_sem, h1, h1']; refine hF ?_; clear hT hF T F)
  refine awp_skip ?_
  refine hK6 _ ?_; clear hK6
  (refine awp_sr fun KK hKK => ?_; simp [go_sem]; ((repeat' (first|(refine ag_x ?_;simp [go_sem])|intro _|refine And.intro ?_ ?_|(apply hKK;clear hKK KK)));all_goals first|refine Hold.mk ?_|omega|with_reducible assumption|skip))
  (refine callA_l (900002 :: 900003 :: 900004 :: 900005 :: famS 1 0 p'.needs.length) (by first | exact .inl ⟨rfl, rfl⟩ | exact .inr rfl) (by simp [go_sem]) ?_; intro args ha; simp [go_sem] at ha; subst ha; refine ⟨_, _, (entry_ok _ _ s gb gp gn gw rs hq hl (.inr rfl) he), (by simp [go_sem]), ?_⟩; rintro ps r hps ⟨gp', gn', gw', rs', hrs', rfl, rfl⟩; simp [go_sem]; ((repeat' (first|(refine ag_x ?_;simp [go_sem])|intro _|refine And.intro ?_ ?_|(apply hKK;clear hKK KK)));all_goals first|refine Hold.mk ?_|omega|with_reducible assumption|skip))
  have hsl := congrArg List.length hrs'
  simp only [List.length_map] at hsl
  rw [putPs_fam (b := 1) (e := 100) (k := 2) (f := mP) rs' 0 _ hsl]
  (refine awp_ret ?_; simp [go_sem])
  refine postK_fam (b := 1) (e := 100) (k := 2) (f := mP) rs' 0 _ _ hsl (by simp [go_sem]; exact FamIn.app _ _) ?_
  exact ⟨gp', gn', gw', rs', hrs', by simp⟩
end Go.Proofs.YtchnagdaljblnaaGreatDoor

namespace Go.Proofs.YtchnagdaljblnaaGreatDoor
open Go.Eng Go.Wh Go.Ver Go.RowKit Go.Lk
set_option maxRecDepth 20000
attribute [local irreducible] AG CallA CallT AWp PCall ACall AgC
set_option maxHeartbeats 8000000 in
theorem line0_ok (P W : List Prs) (N : List (List Prs)) (sum : Bs) (p' : PS) (s : Bs) (gb gp gn gw : Nat) (rs : List (Nat × List Prs)) (hp : PsOk ⟨0, P, N, W, sum⟩ rs) (hl : s.length ≤ 1000000) (he : lineV ⟨0, P, N, W, sum⟩ s = some p') :
  ACall Tryz.prog 68 [.ptr 900002 gb 0, dS s] (rdH ⟨0, P, N, W, sum⟩ gb gp gn gw rs) (900002 :: 900003 :: 900004 :: 900005 :: famS 1 0 p'.needs.length)
   fun ps r => ∃ gp' gn' gw' rs', rs'.map (·.2) = p'.needs ∧ ps = (gb, .box [dI p'.part, .own 900003 gp', .own 900004 gn', .own 900005 gw', dS p'.sum]) :: (gp', .row 83 2 (p'.picks.map cP)) :: (gn', .row 43 1 (famO 1 0 rs')) :: (gw', .row 100 2 (p'.wish.map cP)) :: famP 100 2 mP rs' ∧ r = dB true := by 
 refine acall_of Tryz.func68 rfl rfl Tryz.ntmps68 (rs := [.tmp 4]) (tys := [4]) rfl rfl (by simp) ?_ ?_
 ·exact rdH_ok _ gb gp gn gw rs _ (by have h1 := line_len he; have h2 := congrArg List.length hp.en; simp only [List.length_map] at h1 h2; omega)
 have hq := hp
 obtain ⟨hrs, hnl, hpl, hwl, hrl⟩ := hp
 simp only at hrs hnl hpl hwl hrl
 have hrl2 := congrArg List.length hrs
 simp only [List.length_map] at hrl2
 simp only [lineV] at he
 split at he
 ·rename_i h1
  simp only [Option.some.injEq] at he
  subst he
  have h1' : (s.toArray == gemsT.toArray) = true := by rw [h1]; rfl
  focus
   (refine awp_sr fun KK hKK => ?_; simp [go_sem]; ((repeat' (first|(refine ag_x ?_;simp [go_sem])|intro _|refine And.intro ?_ ?_|(apply hKK;clear hKK KK)));all_goals first|refine Hold.mk ?_|omega|with_reducible assumption|skip))
   refine awp_seq_k fun K1 hK1 => ?_
   (refine awp_sr fun KK hKK => ?_; simp [go_sem]; ((repeat' (first|(refine ag_x ?_;simp [go_sem])|intro _|refine And.intro ?_ ?_|(apply hKK;clear hKK KK)));all_goals first|refine Hold.mk ?_|omega|with_reducible assumption|skip))
   refine awp_block ?_
   refine awp_seq_k fun K2 hK2 => ?_
   (refine awp_sr fun KK hKK => ?_; simp [go_sem]; ((repeat' (first|(refine ag_x ?_;simp [go_sem])|intro _|refine And.intro ?_ ?_|(apply hKK;clear hKK KK)));all_goals first|refine Hold.mk ?_|omega|with_reducible assumption|skip))
   (refine awp_if fun T F hT hF => ?_; simp [go_sem]; refine hT ?_; clear hT hF T F)
   refine awp_skip ?_
   refine hK2 _ ?_; clear hK2
   (refine awp_if fun T F hT hF => ?_; simp [go_sem]; refine hT ?_; clear hT hF T F)
   (refine awp_sr fun KK hKK => ?_; simp [go_sem]; ((repeat' (first|(refine ag_x ?_;simp [go_sem])|intro _|refine And.intro ?_ ?_|(apply hKK;clear hKK KK)));all_goals first|refine Hold.mk ?_|omega|with_reducible assumption|skip))
   refine awp_cov (S' := ⟨[(0, .ptr 900002 gb 0), (1, dS s)], rdH ⟨1, P, N, W, sum⟩ gb gp gn gw rs⟩) (by (refine cov_of ?_ ?_ <;> simp [go_sem])) ?_
   refine awp_sr fun KK hKK => ?_
   simp (maxSteps := 2000000) [go_sem]
   ((repeat' (first|(refine ag_x ?_;simp [go_sem])|refine adr_nil ?_|refine adr_two ?_ ?_|refine adr_kq ?_ ?_|refine adr_three ?_ ?_ ?_|refine adr_four ?_ ?_ ?_ ?_|refine adr_kp2 ?_ ?_|refine adr_kp3 ?_ ?_ ?_|((first|refine adr_qs fun KK hKK=>?_|refine adr_y fun KK hKK=>?_);simp [go_sem])|intro _|refine And.intro ?_ ?_|(apply hKK;clear hKK KK)));all_goals first|refine Hold.mk ?_|omega|with_reducible assumption|skip)
   (refine awp_ret ?_; simp [go_sem, h1, gemsT])
   refine postK_fam (b := 1) (e := 100) (k := 2) (f := mP) rs 0 N.length _ hrl2 (by simp [go_sem]) ?_
   exact ⟨gp, gn, gw, rs, hrs, by simp⟩
 ·cases he
end Go.Proofs.YtchnagdaljblnaaGreatDoor

namespace Go.Proofs.YtchnagdaljblnaaGreatDoor
open Go.Eng Go.Wh Go.Ver Go.RowKit Go.Lk
set_option maxRecDepth 20000
attribute [local irreducible] AG CallA CallT AWp PCall ACall AgC
set_option maxHeartbeats 8000000 in
theorem line2_ok (P W : List Prs) (N : List (List Prs)) (sum : Bs) (p' : PS) (s : Bs) (gb gp gn gw : Nat) (rs : List (Nat × List Prs)) (hp : PsOk ⟨2, P, N, W, sum⟩ rs) (hl : s.length ≤ 1000000) (he : lineV ⟨2, P, N, W, sum⟩ s = some p') :
  ACall Tryz.prog 68 [.ptr 900002 gb 0, dS s] (rdH ⟨2, P, N, W, sum⟩ gb gp gn gw rs) (900002 :: 900003 :: 900004 :: 900005 :: famS 1 0 p'.needs.length)
   fun ps r => ∃ gp' gn' gw' rs', rs'.map (·.2) = p'.needs ∧ ps = (gb, .box [dI p'.part, .own 900003 gp', .own 900004 gn', .own 900005 gw', dS p'.sum]) :: (gp', .row 83 2 (p'.picks.map cP)) :: (gn', .row 43 1 (famO 1 0 rs')) :: (gw', .row 100 2 (p'.wish.map cP)) :: famP 100 2 mP rs' ∧ r = dB true := by 
 refine acall_of Tryz.func68 rfl rfl Tryz.ntmps68 (rs := [.tmp 4]) (tys := [4]) rfl rfl (by simp) ?_ ?_
 ·exact rdH_ok _ gb gp gn gw rs _ (by have h1 := line_len he; have h2 := congrArg List.length hp.en; simp only [List.length_map] at h1 h2; omega)
 have hq := hp
 obtain ⟨hrs, hnl, hpl, hwl, hrl⟩ := hp
 simp only at hrs hnl hpl hwl hrl
 have hrl2 := congrArg List.length hrs
 simp only [List.length_map] at hrl2
 simp only [lineV] at he
 split at he
 ·rename_i h1
  simp only [Option.some.injEq] at he
  subst he
  have h1' : (s.toArray == wishT.toArray) = true := by rw [h1]; rfl
  focus
   (refine awp_sr fun KK hKK => ?_; simp [go_sem]; ((repeat' (first|(refine ag_x ?_;simp [go_sem])|intro _|refine And.intro ?_ ?_|(apply hKK;clear hKK KK)));all_goals first|refine Hold.mk ?_|omega|with_reducible assumption|skip))
   refine awp_seq_k fun K1 hK1 => ?_
   (refine awp_sr fun KK hKK => ?_; simp [go_sem]; ((repeat' (first|(refine ag_x ?_;simp [go_sem])|intro _|refine And.intro ?_ ?_|(apply hKK;clear hKK KK)));all_goals first|refine Hold.mk ?_|omega|with_reducible assumption|skip))
   refine awp_block ?_
   refine awp_seq_k fun K2 hK2 => ?_
   (refine awp_sr fun KK hKK => ?_; simp [go_sem]; ((repeat' (first|(refine ag_x ?_;simp [go_sem])|intro _|refine And.intro ?_ ?_|(apply hKK;clear hKK KK)));all_goals first|refine Hold.mk ?_|omega|with_reducible assumption|skip))
   (refine awp_if fun T F hT hF => ?_; simp [go_sem]; refine hF ?_; clear hT hF T F)
   (refine awp_r fun KK hKK => ?_; simp [go_sem]; ((repeat' (first|(refine ag_x ?_;simp [go_sem])|intro _|refine And.intro ?_ ?_|(apply hKK;clear hKK KK)));all_goals first|refine Hold.mk ?_|omega|with_reducible assumption|skip))
   refine hK2 _ ?_; clear hK2
   (refine awp_if fun T F hT hF => ?_; simp [go_sem]; refine hT ?_; clear hT hF T F)
   (refine awp_sr fun KK hKK => ?_; simp [go_sem]; ((repeat' (first|(refine ag_x ?_;simp [go_sem])|intro _|refine And.intro ?_ ?_|(apply hKK;clear hKK KK)));all_goals first|refine Hold.mk ?_|omega|with_reducible assumption|skip))
   refine awp_cov (S' := ⟨[(0, .ptr 900002 gb 0), (1, dS s)], rdH ⟨3, P, N, W, sum⟩ gb gp gn gw rs⟩) (by (refine cov_of ?_ ?_ <;> simp [go_sem])) ?_
   refine awp_sr fun KK hKK => ?_
   simp (maxSteps := 2000000) [go_sem]
   ((repeat' (first|(refine ag_x ?_;simp [go_sem])|refine adr_nil ?_|refine adr_two ?_ ?_|refine adr_kq ?_ ?_|refine adr_three ?_ ?_ ?_|refine adr_four ?_ ?_ ?_ ?_|refine adr_kp2 ?_ ?_|refine adr_kp3 ?_ ?_ ?_|((first|refine adr_qs fun KK hKK=>?_|refine adr_y fun KK hKK=>?_);simp [go_sem])|intro _|refine And.intro ?_ ?_|(apply hKK;clear hKK KK)));all_goals first|refine Hold.mk ?_|omega|with_reducible assumption|skip)
   (refine awp_ret ?_; simp [go_sem, h1, wishT])
   refine postK_fam (b := 1) (e := 100) (k := 2) (f := mP) rs 0 N.length _ hrl2 (by simp [go_sem]) ?_
   exact ⟨gp, gn, gw, rs, hrs, by simp⟩
 ·cases he
end Go.Proofs.YtchnagdaljblnaaGreatDoor

namespace Go.Proofs.YtchnagdaljblnaaGreatDoor
open Go.Eng Go.Wh Go.Ver Go.RowKit Go.Lk
set_option maxRecDepth 20000
attribute [local irreducible] AG CallA CallT AWp PCall ACall AgC
set_option maxHeartbeats 8000000 in
theorem line4_ok (P W : List Prs) (N : List (List Prs)) (sum : Bs) (p' : PS) (s : Bs) (gb gp gn gw : Nat) (rs : List (Nat × List Prs)) (hp : PsOk ⟨4, P, N, W, sum⟩ rs) (hl : s.length ≤ 1000000) (he : lineV ⟨4, P, N, W, sum⟩ s = some p') :
  ACall Tryz.prog 68 [.ptr 900002 gb 0, dS s] (rdH ⟨4, P, N, W, sum⟩ gb gp gn gw rs) (900002 :: 900003 :: 900004 :: 900005 :: famS 1 0 p'.needs.length)
   fun ps r => ∃ gp' gn' gw' rs', rs'.map (·.2) = p'.needs ∧ ps = (gb, .box [dI p'.part, .own 900003 gp', .own 900004 gn', .own 900005 gw', dS p'.sum]) :: (gp', .row 83 2 (p'.picks.map cP)) :: (gn', .row 43 1 (famO 1 0 rs')) :: (gw', .row 100 2 (p'.wish.map cP)) :: famP 100 2 mP rs' ∧ r = dB true := by 
 refine acall_of Tryz.func68 rfl rfl Tryz.ntmps68 (rs := [.tmp 4]) (tys := [4]) rfl rfl (by simp) ?_ ?_
 ·exact rdH_ok _ gb gp gn gw rs _ (by have h1 := line_len he; have h2 := congrArg List.length hp.en; simp only [List.length_map] at h1 h2; omega)
 have hq := hp
 obtain ⟨hrs, hnl, hpl, hwl, hrl⟩ := hp
 simp only at hrs hnl hpl hwl hrl
 have hrl2 := congrArg List.length hrs
 simp only [List.length_map] at hrl2
 simp only [lineV] at he
 have CP := cutPre_spec s preSum (by omega) (by decide)
 split at he
 ·rename_i h1
  obtain ⟨h1, h2⟩ := h1
  rw [if_pos h1, h1] at CP
  simp only [Option.some.injEq] at he
  subst he
  have hn : s.drop preSum.length = s.drop 4 := rfl
  rw [hn] at CP
  have hlen : (s.drop 4).length ≤ s.length := by rw [List.length_drop]; omega
  generalize s.drop 4 = d at *
  have ND := notDigit_spec d
  unfold digV at h2
  simp only [Bool.and_eq_true, decide_eq_true_eq, Bool.or_eq_true] at h2
  obtain ⟨⟨h2a, h2b⟩, h2c⟩ := h2
  rw [h2b] at ND
  obtain ⟨c, r, rfl⟩ : ∃ c r, d = c :: r := by
   cases d with
   | nil => exact absurd rfl h2a
   | cons c r => exact ⟨c, r, rfl⟩
  (refine awp_sr fun KK hKK => ?_; simp [go_sem]; ((repeat' (first|(refine ag_x ?_;simp [go_sem])|intro _|refine And.intro ?_ ?_|(apply hKK;clear hKK KK)));all_goals first|refine Hold.mk ?_|omega|with_reducible assumption|skip))
  refine awp_seq_k fun K1 hK1 => ?_
  (refine awp_sr fun KK hKK => ?_; simp [go_sem]; ((repeat' (first|(refine ag_x ?_;simp [go_sem])|intro _|refine And.intro ?_ ?_|(apply hKK;clear hKK KK)));all_goals first|refine Hold.mk ?_|omega|with_reducible assumption|skip))
  refine awp_block ?_
  refine awp_seq_k fun K2 hK2 => ?_
  (refine awp_sr fun KK hKK => ?_; simp [go_sem]; ((repeat' (first|(refine ag_x ?_;simp [go_sem])|intro _|refine And.intro ?_ ?_|(apply hKK;clear hKK KK)));all_goals first|refine Hold.mk ?_|omega|with_reducible assumption|skip))
  (refine awp_if fun T F hT hF => ?_; simp [go_sem]; refine hF ?_; clear hT hF T F)
  (refine awp_r fun KK hKK => ?_; simp [go_sem]; ((repeat' (first|(refine ag_x ?_;simp [go_sem])|intro _|refine And.intro ?_ ?_|(apply hKK;clear hKK KK)));all_goals first|refine Hold.mk ?_|omega|with_reducible assumption|skip))
  refine hK2 _ ?_; clear hK2
  (refine awp_if fun T F hT hF => ?_; simp [go_sem]; refine hF ?_; clear hT hF T F)
  refine awp_seq_k fun K4 hK4 => ?_
  (refine awp_sr fun KK hKK => ?_; simp [go_sem]; ((repeat' (first|(refine ag_x ?_;simp [go_sem])|intro _|refine And.intro ?_ ?_|(apply hKK;clear hKK KK)));all_goals first|refine Hold.mk ?_|omega|with_reducible assumption|skip))
  (refine awp_if fun T F hT hF => ?_; simp [go_sem]; refine hF ?_; clear hT hF T F)
  (refine awp_r fun KK hKK => ?_; simp [go_sem]; ((repeat' (first|(refine ag_x ?_;simp [go_sem])|intro _|refine And.intro ?_ ?_|(apply hKK;clear hKK KK)));all_goals first|refine Hold.mk ?_|omega|with_reducible assumption|skip))
  refine hK4 _ ?_; clear hK4
  (refine awp_if fun T F hT hF => ?_; simp [go_sem]; refine hF ?_; clear hT hF T F)
  (refine awp_sr fun KK hKK => ?_; simp [go_sem]; ((repeat' (first|(refine ag_x ?_;simp [go_sem])|intro _|refine And.intro ?_ ?_|(apply hKK;clear hKK KK)));all_goals first|refine Hold.mk ?_|omega|with_reducible assumption|skip))
  (refine awp_if fun T F hT hF => ?_; simp [go_sem]; refine hT ?_; clear hT hF T F)
  (refine awp_sr fun KK hKK => ?_; simp [go_sem]; ((repeat' (first|(refine ag_x ?_;simp [go_sem])|intro _|refine And.intro ?_ ?_|(apply hKK;clear hKK KK)));all_goals first|refine Hold.mk ?_|omega|with_reducible assumption|skip))
  (refine awp_sr fun KK hKK => ?_; simp [go_sem]; ((repeat' (first|(refine ag_x ?_;simp [go_sem])|intro _|refine And.intro ?_ ?_|(apply hKK;clear hKK KK)));all_goals first|refine Hold.mk ?_|omega|with_reducible assumption|skip))
  ((try refine CallT.toA ?_); refine callT_m (by first | exact .inl ⟨rfl, rfl⟩ | exact .inr rfl) (by simp [go_sem]) ?_; intro args ha; simp [go_sem] at ha; subst ha; refine ⟨_, CP, ?_⟩; rintro _ rfl; simp [go_sem]; ((repeat' (first|(refine ag_x ?_;simp [go_sem])|intro _|refine And.intro ?_ ?_|(apply hKK;clear hKK KK)));all_goals first|refine Hold.mk ?_|omega|with_reducible assumption|skip))
  (refine awp_sr fun KK hKK => ?_; simp [go_sem]; ((repeat' (first|(refine ag_x ?_;simp [go_sem])|intro _|refine And.intro ?_ ?_|(apply hKK;clear hKK KK)));all_goals first|refine Hold.mk ?_|omega|with_reducible assumption|skip))
  (refine awp_sr fun KK hKK => ?_; simp [go_sem]; ((repeat' (first|(refine ag_x ?_;simp [go_sem])|intro _|refine And.intro ?_ ?_|(apply hKK;clear hKK KK)));all_goals first|refine Hold.mk ?_|omega|with_reducible assumption|skip))
  (refine agc_f (dB (!true)) (by first | exact .inl ⟨rfl, rfl⟩ | exact .inr rfl) ?_ rfl ?_; (intro hc args ha; simp [go_sem] at ha; subst ha; exact ND); simp [go_sem]; ((repeat' (first|(refine ag_x ?_;simp [go_sem])|intro _|refine And.intro ?_ ?_|(apply hKK;clear hKK KK)));all_goals first|refine Hold.mk ?_|omega|with_reducible assumption|skip))
  by_cases h3 : c = 48
  ·subst h3
   have h4 : r = [] := by
    rcases h2c with h | h
    ·simp at h; exact h
    ·simp at h
   subst h4
   (refine awp_sr fun KK hKK => ?_; simp [go_sem, undef]; ((repeat' (first|(refine ag_false ?_ ?_ ?_;(focus (simp [go_sem, undef, undef];done));(focus (simp [go_sem];done));simp [go_sem, undef])|(refine ag_x ?_;simp [go_sem, undef, undef])|intro _|refine And.intro ?_ ?_|(apply hKK;clear hKK KK)));all_goals first|refine Hold.mk ?_|omega|with_reducible assumption|skip))
   (refine awp_ret ?_; simp [go_sem])
   refine postK_fam (b := 1) (e := 100) (k := 2) (f := mP) rs 0 N.length _ hrl2 (by simp [go_sem]) ?_
   exact ⟨gp, gn, gw, rs, hrs, by simp⟩
  ·have h3a : ¬ c.toNat = 48 := fun q => h3 (UInt8.toNat_inj.1 q)
   have h3b : ¬ (c.toNat : Int) = 48 := by omega
   have hq1 : (r.length : Int) + 1 ≤ 9223372036854775807 := by simp at hlen; omega
   have hq2 : (r.length : Int) ≤ 9223372036854775807 := by omega
   (refine awp_sr fun KK hKK => ?_; simp [go_sem, h3, h3a, h3b, hq1, hq2]; ((repeat' (first|(refine ag_x ?_;simp [go_sem, h3, h3a, h3b, hq1, hq2])|intro _|refine And.intro ?_ ?_|(apply hKK;clear hKK KK)));all_goals first|refine Hold.mk ?_|omega|with_reducible assumption|skip))
   (refine awp_ret ?_; simp [go_sem, h3, h3a, h3b])
   refine postK_fam (b := 1) (e := 100) (k := 2) (f := mP) rs 0 N.length _ hrl2 (by simp [go_sem]) ?_
   exact ⟨gp, gn, gw, rs, hrs, by simp⟩
 ·cases he
end Go.Proofs.YtchnagdaljblnaaGreatDoor

namespace Go.Proofs.YtchnagdaljblnaaGreatDoor
open Go.Eng Go.Wh Go.Ver Go.RowKit Go.Lk
set_option maxRecDepth 20000
attribute [local irreducible] AG CallA CallT AWp PCall ACall AgC
set_option maxHeartbeats 8000000 in
theorem line5_bad (P W : List Prs) (N : List (List Prs)) (sum : Bs) (s : Bs) (gb gp gn gw : Nat) (rs : List (Nat × List Prs)) (n : Nat) (hp : PsOk ⟨n + 5, P, N, W, sum⟩ rs) (hl : s.length ≤ 1000000) (he : lineV ⟨n + 5, P, N, W, sum⟩ s = none) :
  ACall Tryz.prog 68 [.ptr 900002 gb 0, dS s] (rdH ⟨n + 5, P, N, W, sum⟩ gb gp gn gw rs) (900002 :: 900003 :: 900004 :: 900005 :: famS 1 0 N.length)
   fun ps r => r = dB false := by 
 refine acall_of Tryz.func68 rfl rfl Tryz.ntmps68 (rs := [.tmp 4]) (tys := [4]) rfl rfl (by simp) ?_ ?_
 ·exact rdH_ok _ gb gp gn gw rs _ (by have h2 := congrArg List.length hp.en; simp only [List.length_map] at h2; omega)
 have hq := hp
 obtain ⟨hrs, hnl, hpl, hwl, hrl⟩ := hp
 simp only at hrs hnl hpl hwl hrl
 have hrl2 := congrArg List.length hrs
 simp only [List.length_map] at hrl2
 have n0 : ¬ ((n : Int) + 5 = 0) := by omega
 have n1 : ¬ ((n : Int) + 5 = 1) := by omega
 have n2 : ¬ ((n : Int) + 5 = 2) := by omega
 have n3 : ¬ ((n : Int) + 5 = 3) := by omega
 have n4 : ¬ ((n : Int) + 5 = 4) := by omega
 (refine awp_sr fun KK hKK => ?_; simp [go_sem]; ((repeat' (first|(refine ag_x ?_;simp [go_sem])|intro _|refine And.intro ?_ ?_|(apply hKK;clear hKK KK)));all_goals first|refine Hold.mk ?_|omega|with_reducible assumption|skip))
 refine awp_seq_k fun K1 hK1 => ?_
 (refine awp_sr fun KK hKK => ?_; simp [go_sem]; ((repeat' (first|(refine ag_x ?_;simp [go_sem])|intro _|refine And.intro ?_ ?_|(apply hKK;clear hKK KK)));all_goals first|refine Hold.mk ?_|omega|with_reducible assumption|skip))
 refine awp_block ?_
 refine awp_seq_k fun K2 hK2 => ?_
 (refine awp_sr fun KK hKK => ?_; simp [go_sem, n0]; ((repeat' (first|(refine ag_x ?_;simp [go_sem, n0])|intro _|refine And.intro ?_ ?_|(apply hKK;clear hKK KK)));all_goals first|refine Hold.mk ?_|omega|with_reducible assumption|skip))
 (refine awp_if fun T F hT hF => ?_; simp [go_sem, n0]; refine hF ?_; clear hT hF T F)
 (refine awp_r fun KK hKK => ?_; simp [go_sem, n2]; ((repeat' (first|(refine ag_x ?_;simp [go_sem, n2])|intro _|refine And.intro ?_ ?_|(apply hKK;clear hKK KK)));all_goals first|refine Hold.mk ?_|omega|with_reducible assumption|skip))
 refine hK2 _ ?_; clear hK2
 (refine awp_if fun T F hT hF => ?_; simp [go_sem, n2]; refine hF ?_; clear hT hF T F)
 refine awp_seq_k fun K4 hK4 => ?_
 (refine awp_sr fun KK hKK => ?_; simp [go_sem, n1]; ((repeat' (first|(refine ag_x ?_;simp [go_sem, n1])|intro _|refine And.intro ?_ ?_|(apply hKK;clear hKK KK)));all_goals first|refine Hold.mk ?_|omega|with_reducible assumption|skip))
 (refine awp_if fun T F hT hF => ?_; simp [go_sem, n1]; refine hF ?_; clear hT hF T F)
 (refine awp_r fun KK hKK => ?_; simp [go_sem, n3]; ((repeat' (first|(refine ag_x ?_;simp [go_sem, n3])|intro _|refine And.intro ?_ ?_|(apply hKK;clear hKK KK)));all_goals first|refine Hold.mk ?_|omega|with_reducible assumption|skip))
 refine hK4 _ ?_; clear hK4
 (refine awp_if fun T F hT hF => ?_; simp [go_sem, n3]; refine hF ?_; clear hT hF T F)
 (refine awp_sr fun KK hKK => ?_; simp [go_sem, n4]; ((repeat' (first|(refine ag_x ?_;simp [go_sem, n4])|intro _|refine And.intro ?_ ?_|(apply hKK;clear hKK KK)));all_goals first|refine Hold.mk ?_|omega|with_reducible assumption|skip))
 (refine awp_if fun T F hT hF => ?_; simp [go_sem, n4]; refine hF ?_; clear hT hF T F)
 refine awp_skip ?_
 refine hK1 _ ?_; clear hK1
 (refine awp_sr fun KK hKK => ?_; simp [go_sem]; ((repeat' (first|(refine ag_x ?_;simp [go_sem])|intro _|refine And.intro ?_ ?_|(apply hKK;clear hKK KK)));all_goals first|refine Hold.mk ?_|omega|with_reducible assumption|skip))
 (refine awp_ret ?_; simp [go_sem])
 exact postK_fam (b := 1) (e := 100) (k := 2) (f := mP) rs 0 N.length _ hrl2 (by simp [go_sem]) (by simp)
set_option maxHeartbeats 8000000 in
theorem line1_bad (P W : List Prs) (N : List (List Prs)) (sum : Bs) (s : Bs) (gb gp gn gw : Nat) (rs : List (Nat × List Prs)) (hp : PsOk ⟨1, P, N, W, sum⟩ rs) (hl : s.length ≤ 1000000) (he : lineV ⟨1, P, N, W, sum⟩ s = none) :
  ACall Tryz.prog 68 [.ptr 900002 gb 0, dS s] (rdH ⟨1, P, N, W, sum⟩ gb gp gn gw rs) (900002 :: 900003 :: 900004 :: 900005 :: famS 1 0 N.length)
   fun ps r => r = dB false := by 
 refine acall_of Tryz.func68 rfl rfl Tryz.ntmps68 (rs := [.tmp 4]) (tys := [4]) rfl rfl (by simp) ?_ ?_
 ·exact rdH_ok _ gb gp gn gw rs _ (by have h2 := congrArg List.length hp.en; simp only [List.length_map] at h2; omega)
 have hq := hp
 obtain ⟨hrs, hnl, hpl, hwl, hrl⟩ := hp
 simp only at hrs hnl hpl hwl hrl
 have hrl2 := congrArg List.length hrs
 simp only [List.length_map] at hrl2
 simp only [lineV] at he
 (refine awp_sr fun KK hKK => ?_; simp [go_sem]; ((repeat' (first|(refine ag_x ?_;simp [go_sem])|intro _|refine And.intro ?_ ?_|(apply hKK;clear hKK KK)));all_goals first|refine Hold.mk ?_|omega|with_reducible assumption|skip))
 refine awp_seq_k fun K1 hK1 => ?_
 (refine awp_sr fun KK hKK => ?_; simp [go_sem]; ((repeat' (first|(refine ag_x ?_;simp [go_sem])|intro _|refine And.intro ?_ ?_|(apply hKK;clear hKK KK)));all_goals first|refine Hold.mk ?_|omega|with_reducible assumption|skip))
 refine awp_block ?_
 refine awp_seq_k fun K2 hK2 => ?_
 (refine awp_sr fun KK hKK => ?_; simp [go_sem]; ((repeat' (first|(refine ag_x ?_;simp [go_sem])|intro _|refine And.intro ?_ ?_|(apply hKK;clear hKK KK)));all_goals first|refine Hold.mk ?_|omega|with_reducible assumption|skip))
 (refine awp_if fun T F hT hF => ?_; simp [go_sem]; refine hF ?_; clear hT hF T F)
 (refine awp_r fun KK hKK => ?_; simp [go_sem]; ((repeat' (first|(refine ag_x ?_;simp [go_sem])|intro _|refine And.intro ?_ ?_|(apply hKK;clear hKK KK)));all_goals first|refine Hold.mk ?_|omega|with_reducible assumption|skip))
 refine hK2 _ ?_; clear hK2
 (refine awp_if fun T F hT hF => ?_; simp [go_sem]; refine hF ?_; clear hT hF T F)
 refine awp_seq_k fun K4 hK4 => ?_
 (refine awp_sr fun KK hKK => ?_; simp [go_sem]; ((repeat' (first|(refine ag_x ?_;simp [go_sem])|intro _|refine And.intro ?_ ?_|(apply hKK;clear hKK KK)));all_goals first|refine Hold.mk ?_|omega|with_reducible assumption|skip))
 (refine awp_if fun T F hT hF => ?_; simp [go_sem]; refine hT ?_; clear hT hF T F)
 refine awp_skip ?_
 refine hK4 _ ?_; clear hK4
 (refine awp_if fun T F hT hF => ?_; simp [go_sem]; refine hT ?_; clear hT hF T F)
 refine awp_seq_k fun K6 hK6 => ?_
 split at he
 ·cases he
 ·rename_i h1
  have h1' : s.isEmpty = false := by cases s with
   | nil => exact absurd rfl h1
   | cons => rfl
  (refine awp_sr fun KK hKK => ?_; simp [go_sem]; ((repeat' (first|(refine ag_x ?_;simp [go_sem])|intro _|refine And.intro ?_ ?_|(apply hKK;clear hKK KK)));all_goals first|refine Hold.mk ?_|omega|with_reducible assumption|skip))
  (refine awp_if fun T F hT hF => ?_; simp [go_sem, h1, h1']; refine hF ?_; clear hT hF T F)
  refine awp_skip ?_
  refine hK6 _ ?_; clear hK6
  (refine awp_sr fun KK hKK => ?_; simp [go_sem]; ((repeat' (first|(refine ag_x ?_;simp [go_sem])|intro _|refine And.intro ?_ ?_|(apply hKK;clear hKK KK)));all_goals first|refine Hold.mk ?_|omega|with_reducible assumption|skip))
  (refine callA_l (900002 :: 900003 :: 900004 :: 900005 :: famS 1 0 N.length) (by first | exact .inl ⟨rfl, rfl⟩ | exact .inr rfl) (by simp [go_sem]) ?_; intro args ha; simp [go_sem] at ha; subst ha; refine ⟨_, _, (entry_bad _ s gb gp gn gw rs hq hl (.inl rfl) he), (by simp [go_sem]), ?_⟩; rintro ps r hps ⟨rfl, rfl⟩; simp [go_sem]; ((repeat' (first|(refine ag_x ?_;simp [go_sem])|intro _|refine And.intro ?_ ?_|(apply hKK;clear hKK KK)));all_goals first|refine Hold.mk ?_|omega|with_reducible assumption|skip))
  rw [putPs_fam (b := 1) (e := 100) (k := 2) (f := mP) rs 0 _ hrl2]
  (refine awp_ret ?_; simp [go_sem])
  exact postK_fam (b := 1) (e := 100) (k := 2) (f := mP) rs 0 N.length _ hrl2 (by simp [go_sem]; exact FamIn.app _ _) (by simp)
set_option maxHeartbeats 8000000 in
theorem line3_bad (P W : List Prs) (N : List (List Prs)) (sum : Bs) (s : Bs) (gb gp gn gw : Nat) (rs : List (Nat × List Prs)) (hp : PsOk ⟨3, P, N, W, sum⟩ rs) (hl : s.length ≤ 1000000) (he : lineV ⟨3, P, N, W, sum⟩ s = none) :
  ACall Tryz.prog 68 [.ptr 900002 gb 0, dS s] (rdH ⟨3, P, N, W, sum⟩ gb gp gn gw rs) (900002 :: 900003 :: 900004 :: 900005 :: famS 1 0 N.length)
   fun ps r => r = dB false := by 
 refine acall_of Tryz.func68 rfl rfl Tryz.ntmps68 (rs := [.tmp 4]) (tys := [4]) rfl rfl (by simp) ?_ ?_
 ·exact rdH_ok _ gb gp gn gw rs _ (by have h2 := congrArg List.length hp.en; simp only [List.length_map] at h2; omega)
 have hq := hp
 obtain ⟨hrs, hnl, hpl, hwl, hrl⟩ := hp
 simp only at hrs hnl hpl hwl hrl
 have hrl2 := congrArg List.length hrs
 simp only [List.length_map] at hrl2
 simp only [lineV] at he
 (refine awp_sr fun KK hKK => ?_; simp [go_sem]; ((repeat' (first|(refine ag_x ?_;simp [go_sem])|intro _|refine And.intro ?_ ?_|(apply hKK;clear hKK KK)));all_goals first|refine Hold.mk ?_|omega|with_reducible assumption|skip))
 refine awp_seq_k fun K1 hK1 => ?_
 (refine awp_sr fun KK hKK => ?_; simp [go_sem]; ((repeat' (first|(refine ag_x ?_;simp [go_sem])|intro _|refine And.intro ?_ ?_|(apply hKK;clear hKK KK)));all_goals first|refine Hold.mk ?_|omega|with_reducible assumption|skip))
 refine awp_block ?_
 refine awp_seq_k fun K2 hK2 => ?_
 (refine awp_sr fun KK hKK => ?_; simp [go_sem]; ((repeat' (first|(refine ag_x ?_;simp [go_sem])|intro _|refine And.intro ?_ ?_|(apply hKK;clear hKK KK)));all_goals first|refine Hold.mk ?_|omega|with_reducible assumption|skip))
 (refine awp_if fun T F hT hF => ?_; simp [go_sem]; refine hF ?_; clear hT hF T F)
 (refine awp_r fun KK hKK => ?_; simp [go_sem]; ((repeat' (first|(refine ag_x ?_;simp [go_sem])|intro _|refine And.intro ?_ ?_|(apply hKK;clear hKK KK)));all_goals first|refine Hold.mk ?_|omega|with_reducible assumption|skip))
 refine hK2 _ ?_; clear hK2
 (refine awp_if fun T F hT hF => ?_; simp [go_sem]; refine hF ?_; clear hT hF T F)
 refine awp_seq_k fun K4 hK4 => ?_
 (refine awp_sr fun KK hKK => ?_; simp [go_sem]; ((repeat' (first|(refine ag_x ?_;simp [go_sem])|intro _|refine And.intro ?_ ?_|(apply hKK;clear hKK KK)));all_goals first|refine Hold.mk ?_|omega|with_reducible assumption|skip))
 (refine awp_if fun T F hT hF => ?_; simp [go_sem]; refine hF ?_; clear hT hF T F)
 (refine awp_r fun KK hKK => ?_; simp [go_sem]; ((repeat' (first|(refine ag_x ?_;simp [go_sem])|intro _|refine And.intro ?_ ?_|(apply hKK;clear hKK KK)));all_goals first|refine Hold.mk ?_|omega|with_reducible assumption|skip))
 refine hK4 _ ?_; clear hK4
 (refine awp_if fun T F hT hF => ?_; simp [go_sem]; refine hT ?_; clear hT hF T F)
 refine awp_seq_k fun K6 hK6 => ?_
 split at he
 ·cases he
 ·rename_i h1
  have h1' : s.isEmpty = false := by cases s with
   | nil => exact absurd rfl h1
   | cons => rfl
  (refine awp_sr fun KK hKK => ?_; simp [go_sem]; ((repeat' (first|(refine ag_x ?_;simp [go_sem])|intro _|refine And.intro ?_ ?_|(apply hKK;clear hKK KK)));all_goals first|refine Hold.mk ?_|omega|with_reducible assumption|skip))
  (refine awp_if fun T F hT hF => ?_; simp [go_sem, h1, h1']; refine hF ?_; clear hT hF T F)
  refine awp_skip ?_
  refine hK6 _ ?_; clear hK6
  (refine awp_sr fun KK hKK => ?_; simp [go_sem]; ((repeat' (first|(refine ag_x ?_;simp [go_sem])|intro _|refine And.intro ?_ ?_|(apply hKK;clear hKK KK)));all_goals first|refine Hold.mk ?_|omega|with_reducible assumption|skip))
  (refine callA_l (900002 :: 900003 :: 900004 :: 900005 :: famS 1 0 N.length) (by first | exact .inl ⟨rfl, rfl⟩ | exact .inr rfl) (by simp [go_sem]) ?_; intro args ha; simp [go_sem] at ha; subst ha; refine ⟨_, _, (entry_bad _ s gb gp gn gw rs hq hl (.inr rfl) he), (by simp [go_sem]), ?_⟩; rintro ps r hps ⟨rfl, rfl⟩; simp [go_sem]; ((repeat' (first|(refine ag_x ?_;simp [go_sem])|intro _|refine And.intro ?_ ?_|(apply hKK;clear hKK KK)));all_goals first|refine Hold.mk ?_|omega|with_reducible assumption|skip))
  rw [putPs_fam (b := 1) (e := 100) (k := 2) (f := mP) rs 0 _ hrl2]
  (refine awp_ret ?_; simp [go_sem])
  exact postK_fam (b := 1) (e := 100) (k := 2) (f := mP) rs 0 N.length _ hrl2 (by simp [go_sem]; exact FamIn.app _ _) (by simp)
end Go.Proofs.YtchnagdaljblnaaGreatDoor
