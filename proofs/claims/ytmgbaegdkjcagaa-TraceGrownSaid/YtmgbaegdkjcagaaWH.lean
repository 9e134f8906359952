/- Part of a proof: see the last text. -/
import Derived.Test.YtmgbaegdkjcagaaWF
import Derived.Test.YtmgbaegdkjcagaaED
set_option linter.unusedVariables false
set_option linter.unusedSimpArgs false
namespace Go.Proofs.Ytmgbaegdkjcagaa
open Go.Eng
set_option maxRecDepth 20000
attribute [local irreducible] AG CallA CallT AWp PCall ACall AgC

theorem cloneI_spec (l : List Ins) (hl : l.length ≤ 1000) : PCall Try.prog 74 [.sl 6 (l.map cIns)] fun r => r = .sl 6 (l.map cIns) := by
  refine pcall_of Try.func74 rfl rfl Try.ntmps74 (rs := [.tmp 2]) (tys := [22]) rfl rfl (by simp) ?_
  (refine awp_sr fun KK hKK => ?_; simp [go_sem]; ((repeat' (first|(refine ag_x ?_;simp [go_sem])|intro _|refine And.intro ?_ ?_|(apply hKK;clear hKK KK)));all_goals first|refine Hold.mk ?_|omega|with_reducible assumption|(simp only [InR] at *;omega)|skip))
  refine awp_seq_k fun K1 hK1 => ?_
  (refine awp_sr fun KK hKK => ?_; simp [go_sem]; ((repeat' (first|(refine ag_x ?_;simp [go_sem])|intro _|refine And.intro ?_ ?_|(apply hKK;clear hKK KK)));all_goals first|refine Hold.mk ?_|omega|with_reducible assumption|(simp only [InR] at *;omega)|skip))
  · (refine awp_if fun T F hT hF => ?_; simp [go_sem]; refine hF ?_; clear hT hF T F)
    refine awp_skip ?_
    refine hK1 _ ?_; clear hK1
    (refine awp_sr fun KK hKK => ?_; simp [go_sem]; ((repeat' (first|(refine ag_x ?_;simp [go_sem])|intro _|refine And.intro ?_ ?_|(apply hKK;clear hKK KK)));all_goals first|refine Hold.mk ?_|omega|with_reducible assumption|(simp only [InR] at *;omega)|skip))
    (refine awp_ret ?_; simp [go_sem])
  · rename_i hn
    subst hn
    (refine awp_if fun T F hT hF => ?_; simp [go_sem]; refine hT ?_; clear hT hF T F)
    (refine awp_sr fun KK hKK => ?_; simp [go_sem]; ((repeat' (first|(refine ag_x ?_;simp [go_sem])|intro _|refine And.intro ?_ ?_|(apply hKK;clear hKK KK)));all_goals first|refine Hold.mk ?_|omega|with_reducible assumption|(simp only [InR] at *;omega)|skip))
    (refine awp_ret ?_; simp [go_sem])
theorem cloneS_spec (l : List Int) (hl : l.length ≤ 1000) : PCall Try.prog 40 [dIs l] fun r => r = dIs l := by
  refine pcall_of Try.func40 rfl rfl Try.ntmps40 (rs := [.tmp 2]) (tys := [26]) rfl rfl (by simp) ?_
  (refine awp_sr fun KK hKK => ?_; simp [go_sem]; ((repeat' (first|(refine ag_x ?_;simp [go_sem])|intro _|refine And.intro ?_ ?_|(apply hKK;clear hKK KK)));all_goals first|refine Hold.mk ?_|omega|with_reducible assumption|(simp only [InR] at *;omega)|skip))
  refine awp_seq_k fun K1 hK1 => ?_
  (refine awp_sr fun KK hKK => ?_; simp [go_sem]; ((repeat' (first|(refine ag_x ?_;simp [go_sem])|intro _|refine And.intro ?_ ?_|(apply hKK;clear hKK KK)));all_goals first|refine Hold.mk ?_|omega|with_reducible assumption|(simp only [InR] at *;omega)|skip))
  · (refine awp_if fun T F hT hF => ?_; simp [go_sem]; refine hF ?_; clear hT hF T F)
    refine awp_skip ?_
    refine hK1 _ ?_; clear hK1
    (refine awp_sr fun KK hKK => ?_; simp [go_sem]; ((repeat' (first|(refine ag_x ?_;simp [go_sem])|intro _|refine And.intro ?_ ?_|(apply hKK;clear hKK KK)));all_goals first|refine Hold.mk ?_|omega|with_reducible assumption|(simp only [InR] at *;omega)|skip))
    (refine awp_ret ?_; simp [go_sem])
  · rename_i hn
    subst hn
    (refine awp_if fun T F hT hF => ?_; simp [go_sem]; refine hT ?_; clear hT hF T F)
    (refine awp_sr fun KK hKK => ?_; simp [go_sem]; ((repeat' (first|(refine ag_x ?_;simp [go_sem])|intro _|refine And.intro ?_ ?_|(apply hKK;clear hKK KK)));all_goals first|refine Hold.mk ?_|omega|with_reducible assumption|(simp only [InR] at *;omega)|skip))
    (refine awp_ret ?_; simp [go_sem])

theorem copied_spec (t : Tr) (hc : t.code.length ≤ 500) (he : t.exits.length ≤ 100) (hs : ∀ x ∈ t.exits, x.slots.length ≤ 1000) : PCall Try.prog 54 [dTr t] fun r => r = dTr t := by 
  refine pcall_of Try.func54 rfl rfl Try.ntmps54 (rs := [.cell 2 25]) (tys := [25]) rfl rfl (by simp) ?_
  (refine awp_sr fun KK hKK => ?_; simp [go_sem]; ((repeat' (first|(refine ag_x ?_;simp [go_sem])|intro _|refine And.intro ?_ ?_|(apply hKK;clear hKK KK)));all_goals first|refine Hold.mk ?_|omega|with_reducible assumption|(simp only [InR] at *;omega)|skip))
  rename_i g1 g2
  refine awp_frzbox 1 rfl rfl ?_
  simp only [go_sem]
  refine awp_seq_k fun K1 hK1 => ?_
  have tl1 : ∀ S' g3, Cov S' ⟨[(1, .rd [dI t.regs, .sl 6 (t.code.map cIns), .sl 2 (t.exits.map cExi)]), (2, .ptr 2 g2 0), (3, .ptr 3 g3 0)], [(2, g2, .box [dI 0, .v (.slice none 0 0), .v (.slice none 0 0)]),
      (3, g3, .box [dI t.regs, .sl 6 (t.code.map cIns), .v (.slice none 0 0)])]⟩ → K1 S' := fun S' g3 hS => by
    refine hK1 _ ?_; clear hK1
    refine awp_cov hS ?_; clear hS
    refine awp_nilbox 28 69 2 2 (sb := 3) rfl rfl (by decide) fun g5 => ?_
    simp only [List.set, go_sem]
    refine awp_seq_k fun K5 hK5 => ?_
    (refine awp_sr fun KK hKK => ?_; simp [go_sem]; ((repeat' (first|(refine ag_x ?_;simp [go_sem])|intro _|refine And.intro ?_ ?_|(apply hKK;clear hKK KK)));all_goals first|refine Hold.mk ?_|omega|with_reducible assumption|(simp only [InR] at *;omega)|skip))
    refine awp_block ?_
    refine awp_loop (σ := Nat × Nat) (fun x => ⟨[(2, .ptr 2 g2 0), (3, .ptr 3 g3 0), (13, .sl 2 (t.exits.map cExi)), (14, dI t.exits.length), (15, dI x.1)], [(2, g2, .box [dI 0, .v (.slice none 0 0), .v (.slice none 0 0)]),
      (3, g3, .box [dI t.regs, .sl 6 (t.code.map cIns), .own 28 x.2]), (28, x.2, .row 69 2 ((t.exits.take x.1).map cExi))]⟩) (fun x => x.1 ≤ t.exits.length) (fun x => t.exits.length - x.1) (0, g5) ?_ ?_ ?_
    · (refine cov_of ?_ ?_ <;> simp [go_sem])
    · simp
    rintro ⟨i, gg⟩ hx'
    simp at hx'
    (refine awp_sr fun KK hKK => ?_; simp [go_sem]; ((repeat' (first|(refine ag_x ?_;simp [go_sem])|intro _|refine And.intro ?_ ?_|(apply hKK;clear hKK KK)));all_goals first|refine Hold.mk ?_|omega|with_reducible assumption|(simp only [InR] at *;omega)|skip))
    refine awp_seq_k fun K6 hK6 => ?_
    (refine awp_if fun T F hT hF => ?_; simp [go_sem]; refine BR.intro (fun h7 => hT ?_) (fun h7 => hF ?_); all_goals clear hT hF T F; try simp at h7)
    · refine awp_skip ?_
      refine hK6 _ ?_; clear hK6
      have hi : i < t.exits.length := by omega
      obtain ⟨x, hx⟩ : ∃ x, t.exits[i]? = some x := ⟨_, List.getElem?_eq_getElem hi⟩
      have hxs := hs x (List.mem_of_getElem? hx)
      refine awp_seq_k fun K8 hK8 => ?_
      refine awp_block ?_
      (refine awp_sr fun KK hKK => ?_; simp [go_sem, hx]; ((repeat' (first|(refine ag_x ?_;simp [go_sem, hx])|intro _|refine And.intro ?_ ?_|(apply hKK;clear hKK KK)));all_goals first|refine Hold.mk ?_|omega|with_reducible assumption|(simp only [InR] at *;omega)|skip))
      rename_i g5b
      refine awp_frzbox 5 rfl rfl ?_
      simp only [go_sem]
      ((refine awp_d (.qs [0, 2, 4, 1, 3, 5] (.kp 6 (.qs [7] (.kp 8 (.one 9 (.qs [10] (.one 11 (.nil)))))))) (by kernel_rfl) ?_ ?_ ?_ ?_); (kernel_rfl); (exact (by decide +kernel)); (kernel_rfl); intro KK hKK; ((repeat' (first|(refine ag_x ?_;simp [go_sem, hx])|refine adr_nil ?_|refine adr_two ?_ ?_|refine adr_kp2 ?_ ?_|((first|refine adr_qs fun KK hKK=>?_|refine adr_y fun KK hKK=>?_);simp [go_sem, hx])|intro _|refine And.intro ?_ ?_|(apply hKK;clear hKK KK)));all_goals first|refine Hold.mk ?_|omega|with_reducible assumption|(simp only [InR] at *;omega)|skip))
      ((try refine CallT.toA ?_); refine callT_m (by first | exact .inl ⟨rfl, rfl⟩ | exact .inr rfl) (by simp [go_sem]) ?_; intro args ha; simp [go_sem] at ha; subst ha; refine ⟨_, (cloneS_spec x.slots hxs), ?_⟩; rintro _ rfl; simp [go_sem]; ((repeat' (first|(refine ag_x ?_;simp [go_sem])|refine adr_nil ?_|refine adr_two ?_ ?_|refine adr_kp2 ?_ ?_|((first|refine adr_qs fun KK hKK=>?_|refine adr_y fun KK hKK=>?_);simp [go_sem])|intro _|refine And.intro ?_ ?_|(apply hKK;clear hKK KK)));all_goals first|refine Hold.mk ?_|omega|with_reducible assumption|(simp only [InR] at *;omega)|skip))
      refine hK8 _ ?_; clear hK8
      (refine awp_r fun KK hKK => ?_; simp [go_sem]; ((repeat' (first|(refine ag_x ?_;simp [go_sem])|intro _|refine And.intro ?_ ?_|(apply hKK;clear hKK KK)));all_goals first|refine Hold.mk ?_|omega|with_reducible assumption|(simp only [InR] at *;omega)|skip))
      have ht : t.exits.take (i + 1) = t.exits.take i ++ [x] := by rw [List.take_add_one, hx]; rfl
      refine ⟨(i + 1, ‹_›), ?_, ?_, ?_⟩
      · (refine cov_of ?_ ?_ <;> simp [go_sem, ht, hx])
      · exact hi
      · simp; omega
    · refine awp_exit ?_
      simp only [go_sem]
      refine hK5 _ ?_; clear hK5
      have hil : i = t.exits.length := by omega
      subst hil
      simp only [← List.map_take, List.take_length]
      (refine awp_sr fun KK hKK => ?_; simp [go_sem]; ((repeat' (first|(refine ag_x ?_;simp [go_sem])|intro _|refine And.intro ?_ ?_|(apply hKK;clear hKK KK)));all_goals first|refine Hold.mk ?_|omega|with_reducible assumption|(simp only [InR] at *;omega)|skip))
      (refine awp_ret ?_; simp [go_sem])
  ((refine awp_d (.qs [0, 2, 1, 3] (.kp2 4 (.qs [5] (.kp 6 (.one 7 (.nil)))) 6 (.kp 4 (.qs [5] (.one 7 (.nil)))))) (by kernel_rfl) ?_ ?_ ?_ ?_); (kernel_rfl); (exact (by decide +kernel)); (kernel_rfl); intro KK hKK; ((repeat' (first|(refine ag_x ?_;simp [go_sem])|refine adr_nil ?_|refine adr_two ?_ ?_|refine adr_kp2 ?_ ?_|((first|refine adr_qs fun KK hKK=>?_|refine adr_y fun KK hKK=>?_);simp [go_sem])|intro _|refine And.intro ?_ ?_|(apply hKK;clear hKK KK)));all_goals first|refine Hold.mk ?_|omega|with_reducible assumption|(simp only [InR] at *;omega)|skip))
  · ((try refine CallT.toA ?_); refine callT_m (by first | exact .inl ⟨rfl, rfl⟩ | exact .inr rfl) (by simp [go_sem]) ?_; intro args ha; simp [go_sem] at ha; subst ha; refine ⟨_, (cloneI_spec t.code (by omega)), ?_⟩; rintro _ rfl; simp [go_sem]; ((repeat' (first|(refine ag_x ?_;simp [go_sem])|refine adr_nil ?_|refine adr_two ?_ ?_|refine adr_kp2 ?_ ?_|((first|refine adr_qs fun KK hKK=>?_|refine adr_y fun KK hKK=>?_);simp [go_sem])|intro _|refine And.intro ?_ ?_|(apply hKK;clear hKK KK)));all_goals first|refine Hold.mk ?_|omega|with_reducible assumption|(simp only [InR] at *;omega)|skip))
    exact tl1 _ _ (cov_of ⟨rfl, rfl, rfl, trivial⟩ ⟨rfl, rfl, trivial⟩)
  · ((try refine CallT.toA ?_); refine callT_m (by first | exact .inl ⟨rfl, rfl⟩ | exact .inr rfl) (by simp [go_sem]) ?_; intro args ha; simp [go_sem] at ha; subst ha; refine ⟨_, (cloneI_spec t.code (by omega)), ?_⟩; rintro _ rfl; simp [go_sem]; ((repeat' (first|(refine ag_x ?_;simp [go_sem])|refine adr_nil ?_|refine adr_two ?_ ?_|refine adr_kp2 ?_ ?_|((first|refine adr_qs fun KK hKK=>?_|refine adr_y fun KK hKK=>?_);simp [go_sem])|intro _|refine And.intro ?_ ?_|(apply hKK;clear hKK KK)));all_goals first|refine Hold.mk ?_|omega|with_reducible assumption|(simp only [InR] at *;omega)|skip))
    exact tl1 _ _ (cov_of ⟨rfl, rfl, rfl, trivial⟩ ⟨rfl, rfl, trivial⟩)
end Go.Proofs.Ytmgbaegdkjcagaa

namespace Go.Proofs.Ytmgbaegdkjcagaa
open Go.Eng

/-! what folding does: the registers whose words are known -/
def foldRes (i : Ins) (K : Int → Option Int) : Option Int :=
  if i.op = 0 then some i.n else if i.op = 1 then K i.a else
  match K i.a, K i.b with
  | some x, some y => if (valR i.op x y).2 then some (valR i.op x y).1 else none
  | _, _ => none
def upK (K : Int → Option Int) (d : Int) (v : Option Int) : Int → Option Int := fun r => if r = d then v else K r
def foldI (i : Ins) (v : Option Int) : Ins := match v with
  | some n => ⟨0, i.d, 0, 0, n, 0⟩
  | none => i
def foldFrom : List Ins → (Int → Option Int) → List Ins
  | [], _ => []
  | i :: is, K => if i.op = 9 then (if K i.a = some i.n then foldFrom is K else i :: foldFrom is K)
    else if i.op = 10 then i :: foldFrom is K
    else foldI i (foldRes i K) :: foldFrom is (upK K i.d (foldRes i K))
def foldV (t : Tr) : Tr := ⟨t.regs, foldFrom t.code (fun _ => none), t.exits⟩
theorem foldFrom_len : ∀ (l : List Ins) (K : Int → Option Int), (foldFrom l K).length ≤ l.length
  | [], _ => by simp [foldFrom]
  | i :: is, K => by
    simp only [foldFrom]
    split
    · split
      · have := foldFrom_len is K; simp; omega
      · have := foldFrom_len is K; simp; omega
    · split
      · have := foldFrom_len is K; simp; omega
      · have := foldFrom_len is (upK K i.d (foldRes i K)); simp; omega

/-! the map of the program -/
def mE (m : List (Int × Int)) : List (Value × D) := m.map fun p => (.int .i64 p.1, dI p.2)
def alook : List (Int × Int) → Int → Option Int
  | [], _ => none
  | (k, v) :: m, r => if r = k then some v else alook m r
def aput (d v : Int) : List (Int × Int) → List (Int × Int)
  | [] => [(d, v)]
  | (k, w) :: m => if d = k then (d, v) :: m else (k, w) :: aput d v m
def adel (d : Int) : List (Int × Int) → List (Int × Int)
  | [] => []
  | (k, w) :: m => if d = k then m else (k, w) :: adel d m
@[go_sem] theorem mfind_mE (r : Int) : ∀ m : List (Int × Int), mfind 0 (.int .i64 r) (mE m) = some ((alook m r).map dI)
  | [] => rfl
  | (k, v) :: m => by
    have ih := mfind_mE r m
    unfold mE at ih ⊢
    simp only [List.map_cons, mfind, keyEq, if_true, alook]
    by_cases h : r = k
    · simp [h]
    · simp [h, ih]
@[go_sem] theorem mput_mE (d v : Int) : ∀ m : List (Int × Int), mput 0 (.int .i64 d) (.v (.int .i64 v)) (mE m) = mE (aput d v m)
  | [] => rfl
  | (k, w) :: m => by
    have ih := mput_mE d v m
    unfold mE at ih ⊢
    simp only [List.map_cons, mput, keyEq, if_true, aput]
    by_cases h : d = k
    · simp [h]
    · simp [h, ih]
@[go_sem] theorem mdel_mE (d : Int) : ∀ m : List (Int × Int), mdel 0 (.int .i64 d) (mE m) = mE (adel d m)
  | [] => rfl
  | (k, w) :: m => by
    have ih := mdel_mE d m
    unfold mE at ih ⊢
    simp only [List.map_cons, mdel, keyEq, if_true, adel]
    by_cases h : d = k
    · simp [h]
    · simp [h, ih]
theorem alook_put (d v : Int) : ∀ (m : List (Int × Int)) (r : Int), alook (aput d v m) r = if r = d then some v else alook m r
  | [], r => rfl
  | (k, w) :: m, r => by
    have ih := alook_put d v m r
    simp only [aput]
    by_cases h : d = k
    · subst h
      simp only [if_true, alook]
      split <;> rfl
    · simp only [h, if_false, alook, ih]
      by_cases hr : r = k
      · subst hr; simp [Ne.symm h]
      · simp [hr]
def akeys (m : List (Int × Int)) : List Int := m.map (·.1)
theorem mem_aput {d v x : Int} : ∀ {m : List (Int × Int)}, x ∈ akeys (aput d v m) → x = d ∨ x ∈ akeys m
  | [], h => by simp [aput, akeys] at h; exact .inl h
  | (k, w) :: m, h => by
    simp only [aput] at h
    split at h
    · simp only [akeys, List.map_cons, List.mem_cons] at h ⊢; rcases h with h | h <;> simp_all
    · simp only [akeys, List.map_cons, List.mem_cons] at h ⊢
      rcases h with h | h
      · exact .inr (.inl h)
      · rcases mem_aput (m := m) h with h | h
        · exact .inl h
        · exact .inr (.inr h)
theorem nodup_aput (d v : Int) : ∀ {m : List (Int × Int)}, (akeys m).Nodup → (akeys (aput d v m)).Nodup
  | [], _ => by simp [aput, akeys]
  | (k, w) :: m, h => by
    simp only [akeys, List.map_cons, List.nodup_cons] at h
    simp only [aput]
    split
    · rename_i hd
      subst hd
      simpa only [akeys, List.map_cons, List.nodup_cons] using h
    · rename_i hd
      have ih := nodup_aput d v (m := m) h.2
      simp only [akeys, List.map_cons, List.nodup_cons]
      refine ⟨fun hm => ?_, ih⟩
      rcases mem_aput (m := m) hm with h' | h'
      · exact hd h'.symm
      · exact h.1 h'
theorem mem_adel {d x : Int} : ∀ {m : List (Int × Int)}, x ∈ akeys (adel d m) → x ∈ akeys m
  | [], h => h
  | (k, w) :: m, h => by
    simp only [adel] at h
    split at h
    · simp [akeys] at h ⊢; exact .inr h
    · simp only [akeys, List.map_cons, List.mem_cons] at h ⊢
      rcases h with h | h
      · exact .inl h
      · exact .inr (mem_adel (m := m) h)
theorem nodup_adel (d : Int) : ∀ {m : List (Int × Int)}, (akeys m).Nodup → (akeys (adel d m)).Nodup
  | [], h => h
  | (k, w) :: m, h => by
    simp only [akeys, List.map_cons, List.nodup_cons] at h
    simp only [adel]
    split
    · exact h.2
    · simp only [akeys, List.map_cons, List.nodup_cons]
      exact ⟨fun hm => h.1 (mem_adel (m := m) hm), nodup_adel d h.2⟩
theorem alook_none {m : List (Int × Int)} {r : Int} : r ∉ akeys m → alook m r = none := by
  induction m with
  | nil => intro _; rfl
  | cons p m ih =>
    intro h
    simp only [akeys, List.map_cons, List.mem_cons, not_or] at h
    obtain ⟨k, w⟩ := p
    simp only [alook]
    rw [if_neg h.1]
    exact ih h.2
theorem alook_del (d : Int) : ∀ {m : List (Int × Int)}, (akeys m).Nodup → ∀ r, alook (adel d m) r = if r = d then none else alook m r
  | [], _, r => by simp [adel, alook]
  | (k, w) :: m, h, r => by
    simp only [akeys, List.map_cons, List.nodup_cons] at h
    have ih := alook_del d (m := m) h.2 r
    simp only [adel]
    by_cases hd : d = k
    · subst hd
      rw [if_pos rfl]
      by_cases hr : r = d
      · subst hr
        rw [if_pos rfl]
        exact alook_none h.1
      · simp [alook, hr]
    · rw [if_neg hd]
      simp only [alook, ih]
      by_cases hr : r = k
      · subst hr; simp [Ne.symm hd]
      · simp [hr]
end Go.Proofs.Ytmgbaegdkjcagaa

namespace Go.Proofs.Ytmgbaegdkjcagaa
open Go.Eng
set_option maxRecDepth 20000
attribute [local irreducible] AG CallA CallT AWp PCall ACall AgC

/-- known words are words -/
structure Known (m : List (Int × Int)) (K : Int → Option Int) : Prop where
  nodup : (akeys m).Nodup
  look : ∀ r, alook m r = K r
  word : ∀ r v, K r = some v → isW v = true
theorem Known.put {m : List (Int × Int)} {K : Int → Option Int} (h : Known m K) (d v : Int) (hv : isW v = true) : Known (aput d v m) (upK K d (some v)) := by
  refine ⟨nodup_aput d v h.nodup, fun r => ?_, fun r w hw => ?_⟩
  · rw [alook_put]; unfold upK; split
    · rfl
    · exact h.look r
  · unfold upK at hw
    split at hw
    · simp only [Option.some.injEq] at hw; subst hw; exact hv
    · exact h.word r w hw
theorem Known.del {m : List (Int × Int)} {K : Int → Option Int} (h : Known m K) (d : Int) : Known (adel d m) (upK K d none) := by
  refine ⟨nodup_adel d h.nodup, fun r => ?_, fun r w hw => ?_⟩
  · rw [alook_del d h.nodup]; unfold upK; split
    · rfl
    · exact h.look r
  · unfold upK at hw
    split at hw
    · cases hw
    · exact h.word r w hw

theorem set_ins {regs nex : Int} {i : Ins} (h : insOk regs nex i = true) (h0 : i.op = 0) : i = ⟨0, i.d, 0, 0, i.n, 0⟩ := by
  rw [← insR_eq] at h
  obtain ⟨op, d, a, b, n, x⟩ := i
  simp only at h0
  subst h0
  simp [insR, fldOk, flds] at h
  simp
  omega
set_option maxHeartbeats 8000000 in
theorem fold_spec (t : Tr) : PCall Try.prog 28 [dTr t] fun r => r = .tup [dTr (if trOk t then foldV t else ⟨0, [], []⟩), dI (if trOk t then 0 else 1)] := by 
  refine pcall_of Try.func28 rfl rfl Try.ntmps28 (rs := [.cell 2 25, .tmp 3]) (tys := [25, 36]) rfl rfl (by simp) ?_
  (refine awp_sr fun KK hKK => ?_; simp [go_sem]; ((repeat' (first|(refine ag_x ?_;simp [go_sem])|intro _|refine And.intro ?_ ?_|(apply hKK;clear hKK KK)));all_goals first|refine Hold.mk ?_|omega|with_reducible assumption|(simp only [InR] at *;omega)|skip))
  rename_i g1 g2
  refine awp_frzbox 1 rfl rfl ?_
  simp only [go_sem]
  refine awp_seq_k fun K1 hK1 => ?_
  (refine awp_sr fun KK hKK => ?_; simp [go_sem]; ((repeat' (first|(refine ag_x ?_;simp [go_sem])|intro _|refine And.intro ?_ ?_|(apply hKK;clear hKK KK)));all_goals first|refine Hold.mk ?_|omega|with_reducible assumption|(simp only [InR] at *;omega)|skip))
  ((try refine CallT.toA ?_); refine callT_m (by first | exact .inl ⟨rfl, rfl⟩ | exact .inr rfl) (by simp [go_sem]) ?_; intro args ha; simp [go_sem] at ha; subst ha; refine ⟨_, (check_spec _), ?_⟩; rintro _ rfl; simp [go_sem]; ((repeat' (first|(refine ag_x ?_;simp [go_sem])|intro _|refine And.intro ?_ ?_|(apply hKK;clear hKK KK)));all_goals first|refine Hold.mk ?_|omega|with_reducible assumption|(simp only [InR] at *;omega)|skip))
  (refine awp_if fun T F hT hF => ?_; simp [go_sem]; refine BR.intro (fun h2 => hT ?_) (fun h2 => hF ?_); all_goals clear hT hF T F; try simp at h2) 
  · (refine awp_sr fun KK hKK => ?_; simp [go_sem]; ((repeat' (first|(refine ag_x ?_;simp [go_sem])|intro _|refine And.intro ?_ ?_|(apply hKK;clear hKK KK)));all_goals first|refine Hold.mk ?_|omega|with_reducible assumption|(simp only [InR] at *;omega)|skip))
    (refine awp_ret ?_; simp [go_sem, h2])
  · refine awp_skip ?_
    refine hK1 _ ?_; clear hK1
    have hok : trOk t = true := h2
    obtain ⟨hr1, hr2, hcl, hel⟩ := trOk_regs hok
    have hsl := trOk_slots hok
    (refine awp_sr fun KK hKK => ?_; simp [go_sem]; ((repeat' (first|(refine ag_x ?_;simp [go_sem])|intro _|refine And.intro ?_ ?_|(apply hKK;clear hKK KK)));all_goals first|refine Hold.mk ?_|omega|with_reducible assumption|(simp only [InR] at *;omega)|skip))
    ((try refine CallT.toA ?_); refine callT_m (by first | exact .inl ⟨rfl, rfl⟩ | exact .inr rfl) (by simp [go_sem]) ?_; intro args ha; simp [go_sem] at ha; subst ha; refine ⟨_, (copied_spec t (by omega) (by omega) (fun x hx => by have := hsl x hx; omega)), ?_⟩; rintro _ rfl; simp [go_sem]; ((repeat' (first|(refine ag_x ?_;simp [go_sem])|intro _|refine And.intro ?_ ?_|(apply hKK;clear hKK KK)));all_goals first|refine Hold.mk ?_|omega|with_reducible assumption|(simp only [InR] at *;omega)|skip))
    rename_i g4
    (refine awp_sr fun KK hKK => ?_; simp [go_sem]; ((repeat' (first|(refine ag_x ?_;simp [go_sem])|intro _|refine And.intro ?_ ?_|(apply hKK;clear hKK KK)));all_goals first|refine Hold.mk ?_|omega|with_reducible assumption|(simp only [InR] at *;omega)|skip))
    refine awp_nilbox 94 71 6 1 (sb := 4) rfl rfl (by decide) fun gc => ?_
    simp only [List.set, go_sem]
    (refine awp_sr fun KK hKK => ?_; simp [go_sem]; ((repeat' (first|(refine ag_x ?_;simp [go_sem])|intro _|refine And.intro ?_ ?_|(apply hKK;clear hKK KK)));all_goals first|refine Hold.mk ?_|omega|with_reducible assumption|(simp only [InR] at *;omega)|skip))
    rename_i gm
    refine awp_seq_k fun K3 hK3 => ?_
    (refine awp_sr fun KK hKK => ?_; simp [go_sem]; ((repeat' (first|(refine ag_x ?_;simp [go_sem])|intro _|refine And.intro ?_ ?_|(apply hKK;clear hKK KK)));all_goals first|refine Hold.mk ?_|omega|with_reducible assumption|(simp only [InR] at *;omega)|skip))
    refine awp_block ?_
    refine awp_loop (σ := Nat × List (Int × Int) × (Int → Option Int) × List Ins × Nat) (fun x => ⟨[(2, .ptr 2 g2 0), (4, .ptr 4 g4 0), (5, .own 21 gm), (23, .sl 6 (t.code.map cIns)), (24, dI t.code.length), (25, dI x.1)],
      [(2, g2, .box [dI 0, .v (.slice none 0 0), .v (.slice none 0 0)]), (4, g4, .box [dI t.regs, .own 94 x.2.2.2.2, .sl 2 (t.exits.map cExi)]), (94, x.2.2.2.2, .row 71 6 (x.2.2.2.1.map cIns)), (21, gm, .map (mE x.2.1))]⟩)
      (fun x => x.1 ≤ t.code.length ∧ x.2.2.2.1.length ≤ x.1 ∧ Known x.2.1 x.2.2.1 ∧ x.2.2.2.1 ++ foldFrom (t.code.drop x.1) x.2.2.1 = (foldV t).code) (fun x => t.code.length - x.1) (0, [], (fun _ => none), [], gc) ?_ ?_ ?_
    · (refine cov_of ?_ ?_ <;> simp [go_sem, mE])
    · refine ⟨by simp, by simp, ⟨by simp [akeys], fun _ => rfl, fun _ _ h => by cases h⟩, by simp [foldV]⟩
    rintro ⟨k, m, K, out, gc⟩ ⟨hk, hol, hKn, hout⟩
    simp only at hk hol hKn hout
    (refine awp_sr fun KK hKK => ?_; simp [go_sem]; ((repeat' (first|(refine ag_x ?_;simp [go_sem])|intro _|refine And.intro ?_ ?_|(apply hKK;clear hKK KK)));all_goals first|refine Hold.mk ?_|omega|with_reducible assumption|(simp only [InR] at *;omega)|skip))
    refine awp_seq_k fun K4 hK4 => ?_
    (refine awp_if fun T F hT hF => ?_; simp [go_sem]; refine BR.intro (fun h5 => hT ?_) (fun h5 => hF ?_); all_goals clear hT hF T F; try simp at h5) 
    · refine awp_skip ?_
      refine hK4 _ ?_; clear hK4
      obtain ⟨x, hx⟩ : ∃ x, t.code[k]? = some x := ⟨_, List.getElem?_eq_getElem (by omega)⟩
      have hins := insOk_at hok hx
      obtain ⟨ho1, ho2, hxa, hxb, hxd, hxn⟩ := insOk_regs hins hr1
      rw [drop_at hx] at hout
      refine awp_seq_k fun K6 hK6 => ?_
      have tl6 : ∀ S' m' K' out' gc', out'.length ≤ k + 1 → Known m' K' → out' ++ foldFrom (t.code.drop (k + 1)) K' = (foldV t).code → Cov S' ⟨[(2, .ptr 2 g2 0), (4, .ptr 4 g4 0), (5, .own 21 gm), (23, .sl 6 (t.code.map cIns)), (24, dI t.code.length), (25, dI k)],
          [(2, g2, .box [dI 0, .v (.slice none 0 0), .v (.slice none 0 0)]), (4, g4, .box [dI t.regs, .own 94 gc', .sl 2 (t.exits.map cExi)]), (94, gc', .row 71 6 (out'.map cIns)), (21, gm, .map (mE m'))]⟩ → K6 S' := fun S' m' K' out' gc' h1 h2' h3 hS => by
        refine hK6 _ ?_; clear hK6
        refine awp_cov hS ?_; clear hS
        (refine awp_r fun KK hKK => ?_; simp [go_sem]; ((repeat' (first|(refine ag_x ?_;simp [go_sem])|intro _|refine And.intro ?_ ?_|(apply hKK;clear hKK KK)));all_goals first|refine Hold.mk ?_|omega|with_reducible assumption|(simp only [InR] at *;omega)|skip))
        refine ⟨(k + 1, m', K', out', gc'), ?_, ⟨by simp; omega, h1, h2', h3⟩, by simp; omega⟩
        (refine cov_of ?_ ?_ <;> simp [go_sem])
      clear hK6
      refine awp_block ?_
      (refine awp_sr fun KK hKK => ?_; simp [go_sem, hx]; ((repeat' (first|(refine ag_x ?_;simp [go_sem, hx])|intro _|refine And.intro ?_ ?_|(apply hKK;clear hKK KK)));all_goals first|refine Hold.mk ?_|omega|with_reducible assumption|(simp only [InR] at *;omega)|skip))
      rename_i g7
      have lka := hKn.look x.a
      have lkb := hKn.look x.b
      refine awp_seq_k fun KA hKA => ?_
      have tlA : ∀ S', Cov S' ⟨[(2, .ptr 2 g2 0), (4, .ptr 4 g4 0), (5, .own 21 gm), (23, .sl 6 (t.code.map cIns)), (24, dI t.code.length), (25, dI k), (7, .ptr 7 g7 0), (8, dI ((K x.a).getD 0)), (9, dB (K x.a).isSome)], [(2, g2, .box [dI 0, .v (.slice none 0 0), .v (.slice none 0 0)]), (4, g4, .box [dI t.regs, .own 94 gc, .sl 2 (t.exits.map cExi)]), (94, gc, .row 71 6 (out.map cIns)), (21, gm, .map (mE m)), (7, g7, .box (cIns x))]⟩ → KA S' := fun S' hS => by
        refine hKA _ ?_; clear hKA
        refine awp_cov hS ?_; clear hS
        refine awp_seq_k fun KB hKB => ?_
        have tlB : ∀ S', Cov S' ⟨[(2, .ptr 2 g2 0), (4, .ptr 4 g4 0), (5, .own 21 gm), (23, .sl 6 (t.code.map cIns)), (24, dI t.code.length), (25, dI k), (7, .ptr 7 g7 0), (8, dI ((K x.a).getD 0)), (9, dB (K x.a).isSome), (10, dI ((K x.b).getD 0)), (11, dB (K x.b).isSome)], [(2, g2, .box [dI 0, .v (.slice none 0 0), .v (.slice none 0 0)]), (4, g4, .box [dI t.regs, .own 94 gc, .sl 2 (t.exits.map cExi)]), (94, gc, .row 71 6 (out.map cIns)), (21, gm, .map (mE m)), (7, g7, .box (cIns x))]⟩ → KB S' := fun S' hS => by
          refine hKB _ ?_; clear hKB
          refine awp_cov hS ?_; clear hS
          refine awp_seq_k fun K7 hK7 => ?_
          have tl7 : ∀ S', Cov S' ⟨[(2, .ptr 2 g2 0), (4, .ptr 4 g4 0), (5, .own 21 gm), (23, .sl 6 (t.code.map cIns)), (24, dI t.code.length), (25, dI k), (7, .ptr 7 g7 0), (8, dI ((K x.a).getD 0)), (9, dB (K x.a).isSome), (10, dI (if x.op = 1 then 0 else (K x.b).getD 0)), (11, dB (decide (x.op = 1) || (K x.b).isSome))], [(2, g2, .box [dI 0, .v (.slice none 0 0), .v (.slice none 0 0)]), (4, g4, .box [dI t.regs, .own 94 gc, .sl 2 (t.exits.map cExi)]), (94, gc, .row 71 6 (out.map cIns)), (21, gm, .map (mE m)), (7, g7, .box (cIns x))]⟩ → K7 S' := fun S' hS => by
            refine hK7 _ ?_; clear hK7
            refine awp_cov hS ?_; clear hS
            refine awp_seq_k fun K8 hK8 => ?_
            have tl8 : ∀ S' m' K' y, Known m' K' → (out ++ [y]) ++ foldFrom (t.code.drop (k + 1)) K' = (foldV t).code → Cov S' ⟨[(2, .ptr 2 g2 0), (4, .ptr 4 g4 0), (5, .own 21 gm), (23, .sl 6 (t.code.map cIns)), (24, dI t.code.length), (25, dI k), (7, .ptr 7 g7 0)], [(2, g2, .box [dI 0, .v (.slice none 0 0), .v (.slice none 0 0)]), (4, g4, .box [dI t.regs, .own 94 gc, .sl 2 (t.exits.map cExi)]), (94, gc, .row 71 6 (out.map cIns)), (21, gm, .map (mE m')), (7, g7, .box (cIns y))]⟩ → K8 S' := fun S' m' K' y h1 h2' hS => by
              refine hK8 _ ?_; clear hK8
              refine awp_cov hS ?_; clear hS
              (refine awp_r fun KK hKK => ?_; simp [go_sem]; ((repeat' (first|(refine ag_x ?_;simp [go_sem])|intro _|refine And.intro ?_ ?_|(apply hKK;clear hKK KK)));all_goals first|refine Hold.mk ?_|omega|with_reducible assumption|(simp only [InR] at *;omega)|skip))
              rename_i ga gb
              refine tl6 _ m' K' (out ++ [y]) gb (by simp; omega) h1 h2' ?_
              (refine cov_of ?_ ?_ <;> simp [go_sem])
            clear hK8
            (refine awp_sr fun KK hKK => ?_; simp [go_sem]; ((repeat' (first|(refine ag_x ?_;simp [go_sem])|intro _|refine And.intro ?_ ?_|(apply hKK;clear hKK KK)));all_goals first|refine Hold.mk ?_|omega|with_reducible assumption|(simp only [InR] at *;omega)|skip))
            refine awp_block ?_
            (refine awp_sr fun KK hKK => ?_; simp [go_sem]; ((repeat' (first|(refine ag_x ?_;simp [go_sem])|intro _|refine And.intro ?_ ?_|(apply hKK;clear hKK KK)));all_goals first|refine Hold.mk ?_|omega|with_reducible assumption|(simp only [InR] at *;omega)|skip))
            (refine awp_if fun T F hT hF => ?_; simp [go_sem]; refine BR.intro (fun h9 => hT ?_) (fun h9 => hF ?_); all_goals clear hT hF T F; try simp at h9) 
            · (refine awp_r fun KK hKK => ?_; simp [go_sem]; ((repeat' (first|(refine ag_x ?_;simp [go_sem])|intro _|refine And.intro ?_ ?_|(apply hKK;clear hKK KK)));all_goals first|refine Hold.mk ?_|omega|with_reducible assumption|(simp only [InR] at *;omega)|skip))
              refine tl8 _ (aput x.d x.n m) (upK K x.d (some x.n)) x (hKn.put _ _ hxn) ?_ ?_
              · have hi := set_ins hins h9
                simp only [foldFrom, h9, foldRes, foldI, if_true, show ¬ (0 : Int) = 9 by decide, show ¬ (0 : Int) = 10 by decide, if_false] at hout
                rw [List.append_assoc]
                rw [← hout]
                rw [hi]
                rfl
              · (refine cov_of ?_ ?_ <;> simp [go_sem])
            · (refine awp_sr fun KK hKK => ?_; simp [go_sem]; ((repeat' (first|(refine ag_x ?_;simp [go_sem])|intro _|refine And.intro ?_ ?_|(apply hKK;clear hKK KK)));all_goals first|refine Hold.mk ?_|omega|with_reducible assumption|(simp only [InR] at *;omega)|skip))
              (refine awp_if fun T F hT hF => ?_; simp [go_sem]; refine BR.intro (fun h10 => hT ?_) (fun h10 => hF ?_); all_goals clear hT hF T F; try simp at h10) 
              · (refine awp_sr fun KK hKK => ?_; simp [go_sem]; ((repeat' (first|(refine ag_x ?_;simp [go_sem])|intro _|refine And.intro ?_ ?_|(apply hKK;clear hKK KK)));all_goals first|refine Hold.mk ?_|omega|with_reducible assumption|(simp only [InR] at *;omega)|skip))
                (refine awp_if fun T F hT hF => ?_; simp [go_sem]; refine BR.intro (fun h11 => hT ?_) (fun h11 => hF ?_); all_goals clear hT hF T F; try simp at h11) 
                · refine awp_exit ?_
                  simp only [go_sem]
                  refine tl6 _ m K out gc (by omega) hKn ?_ ?_
                  · have hKa : K x.a = some x.n := by
                      cases hka : K x.a with
                      | none => simp [hka] at h11
                      | some v => simp [hka] at h11; simp [h11]
                    simp only [foldFrom, h10, if_true, hKa] at hout
                    exact hout
                  · (refine cov_of ?_ ?_ <;> simp [go_sem])
                · refine awp_skip ?_
                  refine tl8 _ m K x hKn ?_ ?_
                  · have hKa : ¬ K x.a = some x.n := by
                      intro hka
                      simp [hka] at h11
                    simp only [foldFrom, h10, if_true, hKa, if_false] at hout
                    rw [List.append_assoc]
                    exact hout
                  · (refine cov_of ?_ ?_ <;> simp [go_sem])
              · (refine awp_sr fun KK hKK => ?_; simp [go_sem]; ((repeat' (first|(refine ag_x ?_;simp [go_sem])|intro _|refine And.intro ?_ ?_|(apply hKK;clear hKK KK)));all_goals first|refine Hold.mk ?_|omega|with_reducible assumption|(simp only [InR] at *;omega)|skip))
                (refine awp_if fun T F hT hF => ?_; simp [go_sem]; refine BR.intro (fun h12 => hT ?_) (fun h12 => hF ?_); all_goals clear hT hF T F; try simp at h12) 
                · refine awp_skip ?_
                  refine tl8 _ m K x hKn ?_ ?_
                  · simp only [foldFrom, h12, if_true, show ¬ (10 : Int) = 9 by decide, if_false] at hout
                    rw [List.append_assoc]
                    exact hout
                  · (refine cov_of ?_ ?_ <;> simp [go_sem])
                · have hout' : out ++ (foldI x (foldRes x K) :: foldFrom (t.code.drop (k + 1)) (upK K x.d (foldRes x K))) = (foldV t).code := by
                    simp only [foldFrom, h10, h12, if_false] at hout
                    exact hout
                  (refine awp_sr fun KK hKK => ?_; simp [go_sem]; ((repeat' (first|(refine ag_x ?_;simp [go_sem])|intro _|refine And.intro ?_ ?_|(apply hKK;clear hKK KK)));all_goals first|refine Hold.mk ?_|omega|with_reducible assumption|(simp only [InR] at *;omega)|skip))
                  refine awp_seq_k fun K13 hK13 => ?_
                  have tl13 : ∀ S' (n : Int) (goes : Bool), (if goes then some n else none) = foldRes x K → (goes = true → isW n = true) → Cov S' ⟨[(2, .ptr 2 g2 0), (4, .ptr 4 g4 0), (5, .own 21 gm), (23, .sl 6 (t.code.map cIns)), (24, dI t.code.length), (25, dI k), (7, .ptr 7 g7 0), (12, dI n), (13, dB goes)], [(2, g2, .box [dI 0, .v (.slice none 0 0), .v (.slice none 0 0)]), (4, g4, .box [dI t.regs, .own 94 gc, .sl 2 (t.exits.map cExi)]), (94, gc, .row 71 6 (out.map cIns)), (21, gm, .map (mE m)), (7, g7, .box (cIns x))]⟩ → K13 S' := fun S' n goes hres hnw hS => by
                    refine hK13 _ ?_; clear hK13
                    refine awp_cov hS ?_; clear hS
                    (refine awp_sr fun KK hKK => ?_; simp [go_sem]; ((repeat' (first|(refine ag_x ?_;simp [go_sem])|intro _|refine And.intro ?_ ?_|(apply hKK;clear hKK KK)));all_goals first|refine Hold.mk ?_|omega|with_reducible assumption|(simp only [InR] at *;omega)|skip))
                    (refine awp_if fun T F hT hF => ?_; simp [go_sem]; refine BR.intro (fun h14 => hT ?_) (fun h14 => hF ?_); all_goals clear hT hF T F; try simp at h14) 
                    · subst h14
                      simp only [if_true] at hres
                      rw [← hres] at hout'
                      (refine awp_sr fun KK hKK => ?_; simp [go_sem]; ((repeat' (first|(refine ag_x ?_;simp [go_sem])|intro _|refine And.intro ?_ ?_|(apply hKK;clear hKK KK)));all_goals first|refine Hold.mk ?_|omega|with_reducible assumption|(simp only [InR] at *;omega)|skip))
                      (refine awp_r fun KK hKK => ?_; simp [go_sem]; ((repeat' (first|(refine ag_x ?_;simp [go_sem])|intro _|refine And.intro ?_ ?_|(apply hKK;clear hKK KK)));all_goals first|refine Hold.mk ?_|omega|with_reducible assumption|(simp only [InR] at *;omega)|skip))
                      refine tl8 _ (aput x.d n m) (upK K x.d (some n)) ⟨0, x.d, 0, 0, n, 0⟩ (hKn.put _ _ (hnw rfl)) ?_ ?_
                      · rw [List.append_assoc]; exact hout'
                      · (refine cov_of ?_ ?_ <;> simp [go_sem])
                    · subst h14
                      simp only [Bool.false_eq_true, if_false] at hres
                      rw [← hres] at hout'
                      (refine awp_r fun KK hKK => ?_; simp [go_sem]; ((repeat' (first|(refine ag_x ?_;simp [go_sem])|intro _|refine And.intro ?_ ?_|(apply hKK;clear hKK KK)));all_goals first|refine Hold.mk ?_|omega|with_reducible assumption|(simp only [InR] at *;omega)|skip))
                      refine tl8 _ (adel x.d m) (upK K x.d none) x (hKn.del _) ?_ ?_
                      · rw [List.append_assoc]; exact hout'
                      · (refine cov_of ?_ ?_ <;> simp [go_sem])
                  clear hK13
                  (refine awp_sr fun KK hKK => ?_; simp [go_sem]; ((repeat' (first|(refine ag_x ?_;simp [go_sem])|intro _|refine And.intro ?_ ?_|(apply hKK;clear hKK KK)));all_goals first|refine Hold.mk ?_|omega|with_reducible assumption|(simp only [InR] at *;omega)|skip))
                  (refine awp_if fun T F hT hF => ?_; simp [go_sem]; refine BR.intro (fun h15 => hT ?_) (fun h15 => hF ?_); all_goals clear hT hF T F; try simp at h15) 
                  · obtain ⟨h15a, h15b⟩ := h15
                    obtain ⟨va, hva⟩ := Option.isSome_iff_exists.1 h15a
                    have hwa := hKn.word _ _ hva
                    have eva : (K x.a).getD 0 = va := by rw [hva]; rfl
                    obtain ⟨vb, evb, hwb, hvb⟩ : ∃ vb, (if x.op = 1 then 0 else (K x.b).getD 0) = vb ∧ isW vb = true ∧ (x.op ≠ 1 → K x.b = some vb) := by
                      by_cases h1 : x.op = 1
                      · exact ⟨0, by simp [h1], by decide, fun h => absurd h1 h⟩
                      · obtain ⟨vb, hvb⟩ := Option.isSome_iff_exists.1 (h15b.resolve_left h1)
                        exact ⟨vb, by simp [h1, hvb], hKn.word _ _ hvb, fun _ => hvb⟩
                    have hval : (if (valP x.op va vb).2 then some (valP x.op va vb).1 else none) = foldRes x K ∧ ((valP x.op va vb).2 = true → isW (valP x.op va vb).1 = true) := by
                      by_cases h1 : x.op = 1
                      · simp [foldRes, h1, valP, hva, hwa]
                      · rw [val_eq (by omega) (by omega)]
                        simp only [foldRes, h9, h1, if_false, hva, hvb h1]
                        exact ⟨trivial, fun h => val_word hwa hwb h⟩
                    (refine awp_r fun KK hKK => ?_; simp [go_sem]; ((repeat' (first|(refine ag_x ?_;simp [go_sem])|intro _|refine And.intro ?_ ?_|(apply hKK;clear hKK KK)));all_goals first|refine Hold.mk ?_|omega|with_reducible assumption|(simp only [InR] at *;omega)|skip))
                    simp only [eva, evb]
                    ((try refine CallT.toA ?_); refine callT_m (by first | exact .inl ⟨rfl, rfl⟩ | exact .inr rfl) (by simp [go_sem]) ?_; intro args ha; simp [go_sem] at ha; subst ha; refine ⟨_, (value_spec x.op va vb hwa hwb), ?_⟩; rintro _ rfl; simp [go_sem]; ((repeat' (first|(refine ag_x ?_;simp [go_sem])|intro _|refine And.intro ?_ ?_|(apply hKK;clear hKK KK)));all_goals first|refine Hold.mk ?_|omega|with_reducible assumption|(simp only [InR] at *;omega)|skip))
                    refine tl13 _ (valP x.op va vb).1 (valP x.op va vb).2 hval.1 hval.2 ?_
                    (refine cov_of ?_ ?_ <;> simp [go_sem])
                  · refine awp_skip ?_
                    refine tl13 _ 0 false ?_ (fun h => by cases h) ?_
                    · by_cases h1 : x.op = 1
                      · simp [h1] at h15
                        simp [foldRes, h1, h15]
                      · simp only [foldRes, h9, h1, if_false, Bool.false_eq_true]
                        cases hka : K x.a with
                        | none => rfl
                        | some v =>
                          cases hkb : K x.b with
                          | none => rfl
                          | some w => simp [hka, hkb] at h15
                    · (refine cov_of ?_ ?_ <;> simp [go_sem])
          clear hK7
          (refine awp_sr fun KK hKK => ?_; simp [go_sem]; ((repeat' (first|(refine ag_x ?_;simp [go_sem])|intro _|refine And.intro ?_ ?_|(apply hKK;clear hKK KK)));all_goals first|refine Hold.mk ?_|omega|with_reducible assumption|(simp only [InR] at *;omega)|skip))
          (refine awp_if fun T F hT hF => ?_; simp [go_sem]; refine BR.intro (fun h16 => hT ?_) (fun h16 => hF ?_); all_goals clear hT hF T F; try simp at h16) 
          · (refine awp_r fun KK hKK => ?_; simp [go_sem]; ((repeat' (first|(refine ag_x ?_;simp [go_sem])|intro _|refine And.intro ?_ ?_|(apply hKK;clear hKK KK)));all_goals first|refine Hold.mk ?_|omega|with_reducible assumption|(simp only [InR] at *;omega)|skip))
            refine tl7 _ ?_
            (refine cov_of ?_ ?_ <;> simp [go_sem, h16])
          · refine awp_skip ?_
            refine tl7 _ ?_
            (refine cov_of ?_ ?_ <;> simp [go_sem, h16])
        clear hKB
        cases hb : K x.b with
        | none =>
          (refine awp_r fun KK hKK => ?_; simp [go_sem, lkb, hb]; ((repeat' (first|(refine ag_x ?_;simp [go_sem, lkb, hb])|intro _|refine And.intro ?_ ?_|(apply hKK;clear hKK KK)));all_goals first|refine Hold.mk ?_|omega|with_reducible assumption|(simp only [InR] at *;omega)|skip))
          refine tlB _ ?_
          (refine cov_of ?_ ?_ <;> simp [go_sem, hb])
        | some v =>
          (refine awp_r fun KK hKK => ?_; simp [go_sem, lkb, hb]; ((repeat' (first|(refine ag_x ?_;simp [go_sem, lkb, hb])|intro _|refine And.intro ?_ ?_|(apply hKK;clear hKK KK)));all_goals first|refine Hold.mk ?_|omega|with_reducible assumption|(simp only [InR] at *;omega)|skip))
          refine tlB _ ?_
          (refine cov_of ?_ ?_ <;> simp [go_sem, hb])
      clear hKA
      cases ha : K x.a with
      | none =>
        (refine awp_r fun KK hKK => ?_; simp [go_sem, lka, ha]; ((repeat' (first|(refine ag_x ?_;simp [go_sem, lka, ha])|intro _|refine And.intro ?_ ?_|(apply hKK;clear hKK KK)));all_goals first|refine Hold.mk ?_|omega|with_reducible assumption|(simp only [InR] at *;omega)|skip))
        refine tlA _ ?_
        (refine cov_of ?_ ?_ <;> simp [go_sem, ha])
      | some v =>
        (refine awp_r fun KK hKK => ?_; simp [go_sem, lka, ha]; ((repeat' (first|(refine ag_x ?_;simp [go_sem, lka, ha])|intro _|refine And.intro ?_ ?_|(apply hKK;clear hKK KK)));all_goals first|refine Hold.mk ?_|omega|with_reducible assumption|(simp only [InR] at *;omega)|skip))
        refine tlA _ ?_
        (refine cov_of ?_ ?_ <;> simp [go_sem, ha])
    · refine awp_exit ?_
      simp only [go_sem]
      refine hK3 _ ?_; clear hK3
      have : k = t.code.length := by omega
      subst this
      rw [List.drop_length] at hout
      simp only [foldFrom, List.append_nil] at hout
      (refine awp_sr fun KK hKK => ?_; simp [go_sem]; ((repeat' (first|(refine ag_x ?_;simp [go_sem])|intro _|refine And.intro ?_ ?_|(apply hKK;clear hKK KK)));all_goals first|refine Hold.mk ?_|omega|with_reducible assumption|(simp only [InR] at *;omega)|skip))
      (refine awp_ret ?_; simp [go_sem, hok])
      simp [foldV] at hout ⊢
      rw [hout]
end Go.Proofs.Ytmgbaegdkjcagaa
