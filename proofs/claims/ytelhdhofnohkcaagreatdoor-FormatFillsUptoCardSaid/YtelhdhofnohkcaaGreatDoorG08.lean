/- Part of a proof: see the last text. -/
import Derived.Test.YtelhdhofnohkcaaGreatDoorG07
import Derived.Test.YtelhdhofnohkcaaGreatDoorG03
import Derived.Test.YtelhdhofnohkcaaGreatDoorG05
import Derived.Deep.DeepHandedRow
import Derived.JoinedCond
import Derived.Test.YtelhdhofnohkcaaGreatDoorG06
import Derived.Lib.AppendIntMem
import Derived.BigCall
import Derived.BigGuard
set_option linter.unusedVariables false
set_option linter.unusedSimpArgs false
namespace Go.Proofs.YtelhdhofnohkcaaGreatDoor
open Go.Eng Go.Fm
set_option maxRecDepth 20000
attribute [local irreducible] AG CallA CallT AWp PCall ACall AgC
theorem agI_ok {n : Int} (h : InR n) : AgOk (agI n) := ⟨h, by simp [agI]⟩
theorem ags1 {a : Ag} (h : AgOk a) : AgsOk [a] := ⟨by simp, fun x hx => by rw [List.mem_singleton.1 hx]; exact h⟩
theorem np_of {form : Bs} {L : List Fld} (h : readV form = some L) (h2 : ∀ f ∈ L, f.lt ≠ 112) : ∀ L, readV form = some L → ∀ f ∈ L, f.lt ≠ 112 := fun L' h' => by
 rw [h] at h'; cases h'; exact h2
theorem form_np {form : Bs} {args : List Ag} (hA : AgsOk args) (hfl : form.length ≤ 9223372036854775807) {L : List Fld} (h : readV form = some L) (h2 : ∀ f ∈ L, f.lt ≠ 112) {t : Bs} {u e : Nat} (hr : runV form args = (t, u, e)) :
  PCall Tryz.prog 13 [dS form, dAs args] fun r => r = .tup [dS t, dI e] := by
 have := Format_spec form args hA hfl (fillC_np hA (np_of h h2))
 rw [hr] at this
 exact this
theorem rd1 : ∃ L, readV [37, 48, 53, 100] = some L ∧ ∀ f ∈ L, f.lt ≠ 112 := ⟨_, rfl, by decide⟩
theorem rd2 : ∃ L, readV [37, 35, 120] = some L ∧ ∀ f ∈ L, f.lt ≠ 112 := ⟨_, rfl, by decide⟩
theorem rd3 : ∃ L, readV [37, 45, 52, 115, 124] = some L ∧ ∀ f ∈ L, f.lt ≠ 112 := ⟨_, rfl, by decide⟩
set_option maxHeartbeats 8000000 in
theorem sane_spec : PCall Tryz.prog 12 [] fun r => r = dB true := by 
 refine pcall_of Tryz.func12 rfl rfl Tryz.ntmps12 (rs := [.tmp 0]) (tys := [4]) rfl rfl (by simp) ?_
 obtain ⟨L1, h1, p1⟩ := rd1
 obtain ⟨L2, h2, p2⟩ := rd2
 obtain ⟨L3, h3, p3⟩ := rd3
 have S1 := form_np (ags1 (agI_ok (n := -42) (by simp [InR]))) (by simp) h1 p1 sane1
 have S2 := form_np (ags1 (agI_ok (n := 255) (by simp [InR]))) (by simp) h2 p2 sane2
 have S3 := form_np (args := [⟨[], true, 0, [97, 98]⟩]) (ags1 ⟨by simp [InR], by simp⟩) (by simp) h3 p3 sane3
 simp only [dAs, List.map_cons, List.map_nil, agI] at S1 S2 S3
 (refine awp_sr fun Y Yh => ?_; simp [go_sem]; ((repeat' (first|(refine ag_x ?_;simp [go_sem])|intro _|apply And.intro|(apply Yh;clear Yh Y)));all_goals first|apply Hold.mk|omega|with_reducible assumption|skip))
 (refine awp_sr fun Y Yh => ?_; simp [go_sem]; ((repeat' (first|(refine ag_x ?_;simp [go_sem])|intro _|apply And.intro|(apply Yh;clear Yh Y)));all_goals first|apply Hold.mk|omega|with_reducible assumption|skip))
 ((try refine CallT.toA ?_); refine callT_f (.inl ⟨rfl,rfl⟩) ?_; intro args ha; simp [go_sem] at ha; subst ha; refine ⟨_, S1, ?_⟩; rintro _ rfl; refine ⟨rfl, ?_⟩; simp [go_sem]; ((repeat' (first|(refine ag_x ?_;simp [go_sem])|intro _|apply And.intro|(apply Yh;clear Yh Y)));all_goals first|apply Hold.mk|omega|with_reducible assumption|skip))
 (refine awp_sr fun Y Yh => ?_; simp [go_sem]; ((repeat' (first|(refine ag_x ?_;simp [go_sem])|intro _|apply And.intro|(apply Yh;clear Yh Y)));all_goals first|apply Hold.mk|omega|with_reducible assumption|skip))
 ((try refine CallT.toA ?_); refine callT_f (.inl ⟨rfl,rfl⟩) ?_; intro args ha; simp [go_sem] at ha; subst ha; refine ⟨_, S2, ?_⟩; rintro _ rfl; refine ⟨rfl, ?_⟩; simp [go_sem]; ((repeat' (first|(refine ag_x ?_;simp [go_sem])|intro _|apply And.intro|(apply Yh;clear Yh Y)));all_goals first|apply Hold.mk|omega|with_reducible assumption|skip))
 (refine awp_sr fun Y Yh => ?_; simp [go_sem]; ((repeat' (first|(refine ag_x ?_;simp [go_sem])|intro _|apply And.intro|(apply Yh;clear Yh Y)));all_goals first|apply Hold.mk|omega|with_reducible assumption|skip))
 ((try refine CallT.toA ?_); refine callT_f (.inl ⟨rfl,rfl⟩) ?_; intro args ha; simp [go_sem] at ha; subst ha; refine ⟨_, S3, ?_⟩; rintro _ rfl; refine ⟨rfl, ?_⟩; simp [go_sem]; ((repeat' (first|(refine ag_x ?_;simp [go_sem])|intro _|apply And.intro|(apply Yh;clear Yh Y)));all_goals first|apply Hold.mk|omega|with_reducible assumption|skip))
 (refine awp_sr fun Y Yh => ?_; simp [go_sem]; ((repeat' (first|(refine ag_x ?_;simp [go_sem])|intro _|apply And.intro|(apply Yh;clear Yh Y)));all_goals first|apply Hold.mk|omega|with_reducible assumption|skip))
 (refine awp_ret ?_; simp [go_sem])
end Go.Proofs.YtelhdhofnohkcaaGreatDoor
namespace Go.Fm
/-! columns: what both tell -/
end Go.Fm
namespace Go.Proofs.YtelhdhofnohkcaaGreatDoor
open Go.Eng Go.Fm
set_option maxRecDepth 20000
attribute [local irreducible] AG CallA CallT AWp PCall ACall AgC
abbrev dR (l : List Bs) : D := .sl 1 (l.map fun s => [dS s])
set_option maxHeartbeats 8000000 in
theorem texts_spec (a : List Bs) (hl : a.length ≤ 9223372036854775807) : PCall Tryz.prog 19 [dR a, dR a] fun r => r = dB true := by 
 refine pcall_of Tryz.func19 rfl rfl Tryz.ntmps19 (rs := [.tmp 4]) (tys := [4]) rfl rfl (by simp) ?_
 (refine awp_sr fun Y Yh => ?_; simp [go_sem]; ((repeat' (first|(refine ag_x ?_;simp [go_sem])|intro _|apply And.intro|(apply Yh;clear Yh Y)));all_goals first|apply Hold.mk|omega|with_reducible assumption|skip))
 refine awp_seq_k fun K1 hK1 => ?_
 (refine awp_sr fun Y Yh => ?_; simp [go_sem]; ((repeat' (first|(refine ag_x ?_;simp [go_sem])|intro _|apply And.intro|(apply Yh;clear Yh Y)));all_goals first|apply Hold.mk|omega|with_reducible assumption|skip))
 (refine awp_if fun T F hT hF => ?_; simp [go_sem]; refine hF ?_; clear hT hF T F)
 refine awp_skip ?_
 refine hK1 _ ?_; clear hK1
 refine awp_seq_k fun K3 hK3 => ?_
 (refine awp_sr fun Y Yh => ?_; simp [go_sem]; ((repeat' (first|(refine ag_x ?_;simp [go_sem])|intro _|apply And.intro|(apply Yh;clear Yh Y)));all_goals first|apply Hold.mk|omega|with_reducible assumption|skip))
 refine awp_block ?_
 refine awp_loop (σ := Nat) (fun x => ⟨[(0, dR a), (1, dR a), (5, dI x)], []⟩) (fun x => x ≤ a.length) (fun x => a.length - x) 0 ?_ ?_ ?_
 ·(refine cov_of ?_ ?_ <;> simp [go_sem])
 ·simp
 intro x hx
 refine awp_seq_k fun K4 hK4 => ?_
 (refine awp_sr fun Y Yh => ?_; simp [go_sem]; ((repeat' (first|(refine ag_x ?_;simp [go_sem])|intro _|apply And.intro|(apply Yh;clear Yh Y)));all_goals first|apply Hold.mk|omega|with_reducible assumption|skip))
 by_cases h5 : x < a.length
 ·(refine awp_if fun T F hT hF => ?_; simp [go_sem, h5]; refine hT ?_; clear hT hF T F)
  refine awp_skip ?_
  refine hK4 _ ?_; clear hK4
  refine awp_seq_k fun K6 hK6 => ?_
  refine awp_block ?_
  ((refine awp_dr (.qs [0, 1, 2, 4, 5, 6, 3, 7, 8] (.nil)) (by kernel_rfl) ?_ ?_ ?_ ?_); (kernel_rfl); (exact (by decide +kernel)); (kernel_rfl); intro Y Yh; ((repeat' (first|(refine ag_x ?_;simp [go_sem, h5])|refine adr_nil ?_|((first|refine adr_qs fun Y Yh=>?_|refine adr_y fun Y Yh=>?_);simp [go_sem, h5])|intro _|apply And.intro|(apply Yh;clear Yh Y)));all_goals first|apply Hold.mk|omega|with_reducible assumption|skip))
  (refine awp_if fun T F hT hF => ?_; simp [go_sem]; refine hF ?_; clear hT hF T F)
  refine awp_skip ?_
  refine hK6 _ ?_; clear hK6
  (refine awp_r fun Y Yh => ?_; simp [go_sem]; ((repeat' (first|(refine ag_x ?_;simp [go_sem])|intro _|apply And.intro|(apply Yh;clear Yh Y)));all_goals first|apply Hold.mk|omega|with_reducible assumption|skip))
  refine ⟨x + 1, ?_, by omega, by omega⟩
  (refine cov_of ?_ ?_ <;> simp [go_sem])
 ·(refine awp_if fun T F hT hF => ?_; simp [go_sem, h5]; refine hF ?_; clear hT hF T F)
  refine awp_exit ?_
  simp only [go_sem]
  refine hK3 _ ?_; clear hK3
  (refine awp_sr fun Y Yh => ?_; simp [go_sem]; ((repeat' (first|(refine ag_x ?_;simp [go_sem])|intro _|apply And.intro|(apply Yh;clear Yh Y)));all_goals first|apply Hold.mk|omega|with_reducible assumption|skip))
  (refine awp_ret ?_; simp [go_sem])
end Go.Proofs.YtelhdhofnohkcaaGreatDoor
namespace Go.Proofs.YtelhdhofnohkcaaGreatDoor
open Go.Eng Go.WideShapes Go.Fm
set_option maxRecDepth 100000
/-! rows of texts -/
end Go.Proofs.YtelhdhofnohkcaaGreatDoor
namespace Go.Proofs.YtelhdhofnohkcaaGreatDoor
open Go.Eng Go.RowKit Go.WideShapes Go.ChangeShapes Go.Fm
set_option maxRecDepth 100000
set_option linter.unusedSectionVars false
theorem part_le {H : Type} {d : DataW H} : ∀ {l : List (DataW H)}, d ∈ l → Rows.uptoBulk d ≤ Rows.uptoBulkAll l
 | [], h => by simp at h
 | x :: r, h => by
  simp only [Rows.uptoBulkAll]
  rcases List.mem_cons.1 h with rfl | h
  ·omega
  ·have := part_le h; omega
section
variable {P : Program} [HasGlob P]
def OpensUD {α : Type} (P : Program) (t : TypeId) (f : α → List D) (Q : α → Prop) : Prop :=
 ∀ {H : Type} (enc : TypeId × Value → H) (w : World) (spare : Nat → Bool) (held : Bool) (fuel : Nat) (cs : List Value) (x : DataW H × List MemPlace),
  DataW.trod enc P w 0 spare held fuel t cs = some x → Rows.uptoBulk x.1 ≤ 1048576 → ∃ a, RepC w (f a) cs ∧ Q a
theorem opensUD_int {t : TypeId} (ht : P.underlying t = some (.int .i64)) : OpensUD P t (fun n : Int => [.v (.int .i64 n)]) InR := fun enc w spare held fuel cs x h hw0 => by
 obtain ⟨n, rfl, rfl, hw⟩ := DataW.trod_int ht h
 exact ⟨n, RepC.one (.v _), bounds_i64 hw⟩
theorem opensUD_bool {t : TypeId} (ht : P.underlying t = some .bool) : OpensUD P t (fun n : Bool => [.v (.bool n)]) (fun _ => True) := fun enc w spare held fuel cs x h hw0 => by
 obtain ⟨n, rfl, rfl⟩ := DataW.trod_bool ht h
 exact ⟨n, RepC.one (.v _), trivial⟩
theorem opensUD_str {t : TypeId} (ht : P.underlying t = some .string) : OpensUD P t (fun s : ByteArray => [.v (.string s)]) (fun s => s.size ≤ 1048576) := fun enc w spare held fuel cs x h hw0 => by
 obtain ⟨n, rfl, rfl, hw⟩ := DataW.trod_string ht h
 exact ⟨n, RepC.one (.v _), by
  show n.data.size ≤ 1048576
  rw [← Array.length_toList]
  simp only [Rows.uptoBulk] at hw0
  omega⟩
theorem OpensUD.iso {α β : Type} {t : TypeId} {f : α → List D} {Q : α → Prop} {f' : β → List D} {Q' : β → Prop} (h : OpensUD P t f Q) (g : α → β) (hf : ∀ a, f' (g a) = f a) (hq : ∀ a, Q a → Q' (g a)) : OpensUD P t f' Q' :=
 fun enc w spare held fuel cs x hx hw0 => by
  obtain ⟨a, h1, h2⟩ := h enc w spare held fuel cs x hx hw0
  exact ⟨g a, by rw [hf]; exact h1, hq _ h2⟩
theorem opensUD_slice {α : Type} {t e : TypeId} {k : Nat} {f : α → List D} {Q : α → Prop} (ht : P.underlying t = some (.slice e)) (hk : P.cellsOf e = k) (hpos : 0 < k) (hf : ∀ a, (f a).length = k) (h : OpensUD P e f Q) :
  OpensUD P t (fun l : List α => [.sl k (l.map f)]) (fun l => l.length ≤ maxLen ∧ ∀ a ∈ l, Q a) := fun enc w spare held fuel cs x hx hw0 => by
 rcases DataW.trod_slice ht hx with ⟨rfl, _⟩ | ⟨a, len, cap, elems, rest, n, _, rfl, hxe, _, hlc, hmax, hlen, hel, _, _⟩
 ·exact ⟨[], RepC.one (.slE _ _ _ (Nat.zero_le _)), by simp, by simp⟩
 rw [hk] at hel
 have hwe : ∀ y ∈ elems, Rows.uptoBulk y.1 ≤ 1048576 := fun y hy => by
  rw [hxe] at hw0
  simp only [Rows.uptoBulk] at hw0
  have := part_le (d := y.1) (l := elems.map (·.1)) (List.mem_map.2 ⟨y, hy, rfl⟩)
  omega
 have each : ∀ i, i < len → ∃ cs' a', w.cells? 0 (a.add (i * k)) k = some cs' ∧ RepC w (f a') cs' ∧ Q a' := fun i hi => by
  have h1 := hel i hi
  obtain ⟨y, hy⟩ : ∃ y, elems[i]? = some y := ⟨_, List.getElem?_eq_getElem (by omega)⟩
  rw [hy, Option.bind_eq_some_iff] at h1
  obtain ⟨cs', h2, h3⟩ := h1
  obtain ⟨a', h4, h5⟩ := h enc w spare held n cs' y h3 (hwe y (List.mem_of_getElem? hy))
  exact ⟨cs', a', h2, h4, h5⟩
 have build : ∀ m, m ≤ len → ∃ l : List α, l.length = m ∧ ∀ i, i < m → ∃ cs' a', l[i]? = some a' ∧ w.cells? 0 (a.add (i * k)) k = some cs' ∧ RepC w (f a') cs' ∧ Q a' := fun m => by
  induction m with
  | zero => exact fun _ => ⟨[], rfl, fun i hi => by omega⟩
  | succ m ih =>
   intro hm
   obtain ⟨l, h1, h2⟩ := ih (by omega)
   obtain ⟨cs', a', h3, h4, h5⟩ := each m (by omega)
   refine ⟨l ++ [a'], by simp [h1], fun i hi => ?_⟩
   by_cases hi' : i < m
   ·obtain ⟨c1, a1, g1, g2⟩ := h2 i hi'
    exact ⟨c1, a1, by rw [List.getElem?_append_left (by omega)]; exact g1, g2⟩
   ·have : i = m := by omega
    subst this
    exact ⟨cs', a', by rw [List.getElem?_append_right (by omega), h1]; simp, h3, h4, h5⟩
 obtain ⟨l, hl1, hl2⟩ := build len (Nat.le_refl _)
 refine ⟨l, RepC.one ?_, by omega, fun x hx => ?_⟩
 ·cases hle : len with
  | zero =>
   have : l = [] := List.length_eq_zero_iff.1 (by omega)
   subst this
   exact .slE _ _ _ hmax
  | succ m =>
   have hsp : a.spot = none := by
    obtain ⟨cs', a', _, h3, _⟩ := hl2 0 (by omega)
    obtain ⟨h4, h5⟩ := cells_at h3
    have h6 := h5 0 (cs'[0]'(by omega)) (List.getElem?_eq_getElem _)
    simp only [Nat.zero_mul, Addr.add, if_true] at h6
    unfold World.cell? at h6
    split at h6
    ·split at h6
     ·cases h6
     ·rename_i hs; simpa using hs
    ·cases h6
   have ea : a = ⟨a.block, a.off, none⟩ := by cases a; simp at hsp; subst hsp; rfl
   have lm : (l.map f).length = len := by simp [hl1]
   rw [← hle, ← lm, ea]
   refine .sl k (l.map f) a.block a.off cap (fun i j => ((w.cells? 0 (a.add (i * k)) k).bind (·[j]?)).getD undef) (by omega) hmax (fun e he => ?_) (fun i j e' c hi hj => ?_) (fun i j e' c hi hj => ?_)
   ·obtain ⟨x, _, rfl⟩ := List.mem_map.1 he
    exact hf x
   all_goals
    have hil : i < len := by have := (List.getElem?_eq_some_iff.1 hi).1; omega
    obtain ⟨cs', a', g1, g2, g3, g4⟩ := hl2 i hil
    rw [List.getElem?_map, g1] at hi
    simp only [Option.map_some, Option.some.injEq] at hi
    subst hi
    obtain ⟨g5, g6⟩ := cells_at g2
    have hjl : j < cs'.length := by rw [g3.1]; exact (List.getElem?_eq_some_iff.1 hj).1
    have hcj : cs'[j]? = some cs'[j] := List.getElem?_eq_getElem hjl
    simp only [g2, Option.bind_some, hcj, Option.getD_some]
   ·refine ⟨noCtx_owns _, ?_⟩
    have := g6 j _ hcj
    rw [← this]
    congr 1
    rw [ea]
    simp only [Addr.add]
    by_cases h0 : i * k = 0 <;> by_cases h1 : j = 0 <;> simp [h0, h1, Nat.add_assoc]
   ·exact g3.2 j c _ hj hcj
 ·obtain ⟨i, hi, rfl⟩ := List.getElem_of_mem hx
  obtain ⟨cs', a', g1, _, _, g4⟩ := hl2 i (by omega)
  rw [List.getElem?_eq_getElem hi] at g1
  simp only [Option.some.injEq] at g1
  rw [g1]
  exact g4
/-! structs: field by field -/
def OpensUSD {α : Type} (P : Program) (fs : List Field) (o e : Nat) (f : α → List D) (Q : α → Prop) : Prop :=
 ∀ {H : Type} (enc : TypeId × Value → H) (w : World) (spare : Nat → Bool) (held : Bool) (fuel : Nat) (cs : List Value) (xs : List (DataW H × List MemPlace)), cs.length = e →
  xs.length = fs.length → (∀ (i : Nat) (g : Field), fs[i]? = some g → DataW.trod enc P w 0 spare held fuel g.type ((cs.drop g.offset).take (P.cellsOf g.type)) = xs[i]?) → (∀ y ∈ xs, Rows.uptoBulk y.1 ≤ 1048576) → ∃ a, RepC w (f a) (cs.drop o) ∧ Q a
theorem opensUSD_nil {e : Nat} : OpensUSD P [] e e (fun _ : Unit => []) (fun _ => True) := fun enc w spare held fuel cs xs hl hx hh hw0 => by
 refine ⟨(), ?_, trivial⟩
 rw [List.drop_of_length_le (by omega)]
 exact RepC.nil
theorem opensUSD_cons {α β : Type} {g : Field} {fs : List Field} {o n e : Nat} {f : α → List D} {Q : α → Prop} {f' : β → List D} {Q' : β → Prop} (ho : g.offset = o) (hn : P.cellsOf g.type = n) (h : OpensUD P g.type f Q)
  (h' : OpensUSD P fs (o + n) e f' Q') : OpensUSD P (g :: fs) o e (fun x : α × β => f x.1 ++ f' x.2) (fun x => Q x.1 ∧ Q' x.2) := fun enc w spare held fuel cs xs hl hx hh hw0 => by
 obtain ⟨x, xs', rfl⟩ : ∃ x xs', xs = x :: xs' := by cases xs with
  | nil => simp at hx
  | cons x xs' => exact ⟨x, xs', rfl⟩
 have h1 := hh 0 g rfl
 rw [ho, hn] at h1
 obtain ⟨a, h2, h3⟩ := h enc w spare held fuel _ x h1 (hw0 x (by simp))
 obtain ⟨b, h4, h5⟩ := h' enc w spare held fuel cs xs' hl (by simpa using hx) (fun i g' hg => by have := hh (i + 1) g' (by simpa using hg); simpa using this) (fun y hy => hw0 y (by simp [hy]))
 refine ⟨(a, b), ?_, h3, h5⟩
 have := h2.app h4
 rw [show (cs.drop o).take n ++ cs.drop (o + n) = cs.drop o by rw [← List.drop_drop]; exact List.take_append_drop _ _] at this
 exact this
theorem opensUD_struct {α : Type} {t : TypeId} {fs : Array Field} {fl : List Field} {e : Nat} {f : α → List D} {Q : α → Prop} (ht : P.underlying t = some (.struct fs)) (hfl : fs.toList = fl) (he : P.cellsOf t = e) (h : OpensUSD P fl 0 e f Q) : OpensUD P t f Q :=
 fun enc w spare held fuel cs x hx hw0 => by
  obtain ⟨xs, n, _, hxe, h1, h2, h3⟩ := DataW.trod_struct ht hx
  obtain ⟨a, h4, h5⟩ := h enc w spare held n cs xs (by omega) (by rw [← hfl]; simpa using h2) (fun i g hg => h3 i g (by rw [← hfl] at hg; simpa using hg)) (fun y hy => by
   rw [hxe] at hw0
   simp only [Rows.uptoBulk] at hw0
   have := part_le (d := y.1) (l := xs.map (·.1)) (List.mem_map.2 ⟨y, hy, rfl⟩)
   omega)
  exact ⟨a, by simpa using h4, h5⟩
/-! a parameter: one value -/
def OpensUVD {α : Type} (P : Program) (t : TypeId) (f : α → D) (Q : α → Prop) : Prop :=
 ∀ {H : Type} (enc : TypeId × Value → H) (w : World) (spare : Nat → Bool) (held : Bool) (base : Nat) (v : Value) (d : DataW H) (ps : List MemPlace), Value.okWide P w .any base t v →
  DataW.Trod enc P w 0 spare held t v d ps → Rows.uptoBulk d ≤ 1048576 → ∃ a, Rep noCtx w (f a) v ∧ Q a
theorem opensUVD_cell {α : Type} {t : TypeId} {f : α → D} {Q : α → Prop} (hk : cellKind (P.underlying t) = true) (h : OpensUD P t (fun a => [f a]) Q) : OpensUVD P t f Q := fun enc w spare held base v d ps hok ⟨fuel, hd⟩ hw0 => by
 have hc : v.cells.toList = [v] := by
  unfold Value.okWide at hok
  split at hok
  ·rename_i h1; rw [h1] at hk; cases hk
  ·rename_i h1; rw [h1] at hk; cases hk
  ·unfold Cell.okWide at hok
   split at hok
   all_goals first | (exfalso; rw [‹P.underlying t = _›] at hk; cases hk; done) | skip
   ·unfold Cell.ok at hok
    split at hok
    all_goals first | rfl | exact hok.elim | skip
 rw [hc] at hd
 obtain ⟨a, h1, h2⟩ := h enc w spare held fuel _ _ hd hw0
 exact ⟨a, h1.2 0 _ _ rfl rfl, h2⟩
/-! the parameters of a law -/
def OpensULD {α : Type} (P : Program) (ts : List TypeId) (f : α → List D) (Q : α → Prop) : Prop :=
 ∀ {H : Type} (enc : TypeId × Value → H) (w : World) (spare : Nat → Bool) (held : Bool) (base : Nat) (vs : List Value) (ds : List (DataW H)) (ps : List MemPlace), (∀ (j : Nat) t v, ts[j]? = some t → vs[j]? = some v → Value.okWide P w .any base t v) →
  DataW.TrodAll enc P w 0 spare held ts vs ds ps → (∀ d ∈ ds, Rows.uptoBulk d ≤ 1048576) → ∃ a, RepL noCtx w (f a) vs ∧ Q a
theorem opensULD_nil : OpensULD P [] (fun _ : Unit => []) (fun _ => True) := fun enc w spare held base vs ds ps _ h _ => by
 obtain ⟨rfl, rfl, _⟩ := trodAll_nil h
 exact ⟨(), ⟨rfl, fun j d u hd _ => by simp at hd⟩, trivial⟩
theorem opensULD_cons {α β : Type} {t : TypeId} {ts : List TypeId} {f : α → D} {Q : α → Prop} {f' : β → List D} {Q' : β → Prop} (h : OpensUVD P t f Q) (h' : OpensULD P ts f' Q') :
  OpensULD P (t :: ts) (fun x : α × β => f x.1 :: f' x.2) (fun x => Q x.1 ∧ Q' x.2) := fun enc w spare held base vs ds ps hok hd hw0 => by
 obtain ⟨v, vs', d, ds', p, q, rfl, rfl, rfl, h1, h2⟩ := trodAll_cons hd
 obtain ⟨a, h3, h4⟩ := h enc w spare held base v d p (hok 0 t v rfl rfl) h1 (hw0 d (by simp))
 obtain ⟨b, h5, h6⟩ := h' enc w spare held base vs' ds' q (fun j t' v' ht hv => hok (j + 1) t' v' (by simpa using ht) (by simpa using hv)) h2 (fun y hy => hw0 y (by simp [hy]))
 refine ⟨(a, b), ⟨by simp [h5.1], fun j d' u hd' hu => ?_⟩, h4, h6⟩
 cases j with
 | zero => simp at hd' hu; subst hd'; subst hu; exact h3
 | succ j => exact h5.2 j d' u (by simpa using hd') (by simpa using hu)
theorem law_contractU {α : Type} {f : FuncId} {fn : Func} {s : ChangeSpec} {again : Bool} {ts : List TypeId} {tb : TypeId} {g : α → List D} {Q : α → Prop} (hl : laidOutB P = true) (hts : fn.params.toList = ts) (htb : fn.resultTypes = #[tb]) (hub : P.underlying tb = some .bool)
  (hr : (ts.all fun t => P.readableRec t && decide (t < P.types.size)) = true) (hvars : s.vars = []) (hs : ∀ (H : Type) (ds : List (DataW H)), ds.length = ts.length → s.fn H ds = { results := [.lit (.bool true)], args := ds })
  (ho : OpensULD P ts g Q) (hc : ∀ a, Q a → PCall P f (g a) fun r => r = .v (.bool true))
  {H : Type} (enc : TypeId × Value → H) (W : World) (base : Nat) (args : Array Value) (ds gs : List (DataW H)) (before : List MemPlace) (hg : GlobOk P noCtx W)
  (hval : ∀ (j : Nat) t v, fn.params[j]? = some t → args[j]? = some v → Value.okWide P W .any base t v)
  (hW : DataW.Whole enc P fn.params.toList s.vars false W args.toList ds gs before) (hz : Rows.uptoBulkAll ds ≤ 1048576) :
  Calls P f args W fun e W' => ∃ v, e = .returned v ∧ s.post enc P fn false true false again W args v W' := by
 have hW' := hW
 obtain ⟨p, q, hA, hV, hpq, _⟩ := hW
 rw [hvars] at hV
 obtain ⟨rfl, rfl⟩ := trodVars_none hV
 rw [List.append_nil] at hpq
 subst hpq
 rw [hts] at hA
 obtain ⟨a, h1, h2⟩ := ho enc W _ _ base _ _ _ (fun j t v ht hv => hval j t v (by rw [← hts] at ht; simpa using ht) (by simpa using hv)) hA (fun d hd => Nat.le_trans (part_le hd) hz)
 have hcall := (hc a h2).2 noCtx W args.toList (noCtx_ok W) hg h1
 rw [Array.toArray_toList] at hcall
 refine hcall.mono fun e W' hh => ?_
 obtain ⟨u, r, C', he, hr', hru, _, hext, _, hf⟩ := hh
 subst hr'
 have hu := hru.v_inv
 subst hu
 refine ⟨_, he, ?_⟩
 have hb : Below W.heap.size W W' := ⟨hf.os, hf.tape, hf.output, hf.size, fun k hk => hf.block k hk (fun h => by obtain ⟨_, _, _, h, _⟩ := h)⟩
 have hlen : ds.length = ts.length := trodAll_len hA
 have hfn : s.fn H (ds ++ []) = { results := [.lit (.bool true)], args := ds } := by rw [List.append_nil]; exact hs H ds hlen
 have hlt : ∀ x ∈ before, x.block < W.heap.size := fun x hx => hW'.lt x hx
 refine post_below (pa := before) (pv := []) hW' (fun b sp hd => ?_) (fun sp hsp => ?_) (fun sp _ => ?_) (by simp) hb ?_
 ·rw [hfn, htb]
  exact trodAll_cons_mk (p := []) (p' := []) (shut_bool hub true) trodAll_mk0
 ·rw [hfn, hts]
  exact trodAll_spare hl hb hr hA hlt hsp
 ·rw [hfn, hvars]; rfl
 ·exact ok_one htb rfl (okWide_bool_mk hub true)
end
end Go.Proofs.YtelhdhofnohkcaaGreatDoor
namespace Go.Fm
/-! what is in front, of some bytes alone -/
theorem tw_step {p : UInt8 → Bool} : ∀ {s : List UInt8} {i : Nat} (h : i < s.length), i ≤ (s.takeWhile p).length → (p s[i] = true → i + 1 ≤ (s.takeWhile p).length) ∧ (p s[i] = false → i = (s.takeWhile p).length)
 | [], i, h, _ => by simp at h
 | c :: s, 0, h, _ => by
  simp only [List.getElem_cons_zero, List.takeWhile_cons]
  refine ⟨fun q => by rw [q]; simp, fun q => by rw [q]; simp⟩
 | c :: s, i + 1, h, hi => by
  by_cases hc : p c = true
  ·have e : ((c :: s).takeWhile p).length = (s.takeWhile p).length + 1 := by rw [List.takeWhile_cons, if_pos hc, List.length_cons]
   rw [e] at hi ⊢
   obtain ⟨h1, h2⟩ := tw_step (p := p) (s := s) (i := i) (by simpa using h) (by omega)
   rw [List.getElem_cons_succ]
   exact ⟨fun q => by have := h1 q; omega, fun q => by have := h2 q; omega⟩
  ·rw [List.takeWhile_cons, if_neg hc] at hi
   simp at hi
theorem tw_le {p : UInt8 → Bool} (s : List UInt8) : (s.takeWhile p).length ≤ s.length := (List.takeWhile_prefix p).length_le
theorem app_take {a b : List UInt8} : (a ++ b).take a.length = a ∧ (a ++ b).drop a.length = b := by simp
theorem tw_take {p : UInt8 → Bool} (s : List UInt8) : s.take (s.takeWhile p).length = s.takeWhile p ∧ s.drop (s.takeWhile p).length = s.dropWhile p := by
 have e := List.takeWhile_append_dropWhile (p := p) (l := s)
 have h := app_take (a := s.takeWhile p) (b := s.dropWhile p)
 rw [e] at h
 exact h
end Go.Fm
namespace Go.Proofs.YtelhdhofnohkcaaGreatDoor
open Go.Eng Go.Fm
set_option maxRecDepth 20000
attribute [local irreducible] AG CallA CallT AWp PCall ACall AgC
theorem idx_has (s : Bs) (c : UInt8) : 0 ≤ idxV s c ↔ s.contains c = true := by
 unfold idxV
 by_cases h : s.findIdx (· == c) < s.length
 ·rw [if_pos h]
  have := List.findIdx_lt_length.1 h
  obtain ⟨x, hx, hq⟩ := this
  simp at hq
  subst hq
  simp [hx]
 ·rw [if_neg h]
  constructor
  ·intro q; omega
  ·intro q
   exact absurd (List.findIdx_lt_length.2 ⟨c, by simpa using q, by simp⟩) h
theorem take_spec (s ofs : Bs) (hl : s.length ≤ 1000000000) : PCall Tryz.prog 106 [dS s, dS ofs] fun r => r = .tup [dS (s.takeWhile (ofs.contains ·)), dS (s.dropWhile (ofs.contains ·))] := by 
 refine pcall_of Tryz.func106 rfl rfl Tryz.ntmps106 (rs := [.tmp 4, .tmp 5]) (tys := [9, 9]) rfl rfl (by simp) ?_
 have hle := tw_le (p := (ofs.contains ·)) s
 obtain ⟨e1, e2⟩ := tw_take (p := (ofs.contains ·)) s
 (refine awp_sr fun Y Yh => ?_; simp [go_sem]; ((repeat' (first|(refine ag_x ?_;simp [go_sem])|intro _|apply And.intro|(apply Yh;clear Yh Y)));all_goals first|apply Hold.mk|omega|with_reducible assumption|skip))
 (refine awp_sr fun Y Yh => ?_; simp [go_sem]; ((repeat' (first|(refine ag_x ?_;simp [go_sem])|intro _|apply And.intro|(apply Yh;clear Yh Y)));all_goals first|apply Hold.mk|omega|with_reducible assumption|skip))
 refine awp_seq_k fun K1 hK1 => ?_
 refine awp_block ?_
 refine awp_loop (σ := Nat) (fun x => ⟨[(0, dS s), (1, dS ofs), (6, dI x)], []⟩) (fun x => x ≤ (s.takeWhile (ofs.contains ·)).length) (fun x => s.length - x) 0 ?_ ?_ ?_
 ·(refine cov_of ?_ ?_ <;> simp [go_sem])
 ·simp
 intro x hx
 refine awp_seq_k fun K2 hK2 => ?_
 have fin : x = (s.takeWhile (ofs.contains ·)).length → ∀ S', Cov S' ⟨[(0, dS s), (1, dS ofs), (6, dI x)], []⟩ → K1 S' := fun hx S' hS => by
  refine hK1 _ ?_; clear hK1
  refine awp_cov hS ?_; clear hS
  have c1 : ({ data := s.toArray } : ByteArray).extract 0 x = { data := (s.takeWhile (ofs.contains ·)).toArray } := by rw [ba_cut, List.drop_zero, hx, e1]
  have c2 : ({ data := s.toArray } : ByteArray).extract x s.length = { data := (s.dropWhile (ofs.contains ·)).toArray } := by rw [ba_cut, List.take_of_length_le (Nat.le_refl _), hx, e2]
  have hx3 : x ≤ s.length := by omega
  ((refine awp_dr (.qs [0, 1, 2, 3, 4, 5, 6, 7] (.nil)) (by kernel_rfl) ?_ ?_ ?_ ?_); (kernel_rfl); (exact (by decide +kernel)); (kernel_rfl); intro Y Yh; ((repeat' (first|(refine ag_x ?_;simp [go_sem, ba_size, c1, c2])|refine adr_nil ?_|((first|refine adr_qs fun Y Yh=>?_|refine adr_y fun Y Yh=>?_);simp [go_sem, ba_size, c1, c2])|intro _|apply And.intro|(apply Yh;clear Yh Y)));all_goals first|apply Hold.mk|omega|with_reducible assumption|skip))
  (refine awp_ret ?_; simp [go_sem])
 by_cases hx2 : x < s.length
 ·obtain ⟨p1, p2⟩ := tw_step (p := (ofs.contains ·)) hx2 hx
  have hI := idxB_spec ofs s[x]
  have hh := idx_has ofs s[x]
  generalize idxV ofs s[x] = v at *
  (refine awp_sr fun Y Yh => ?_; simp [go_sem, hx2, ba_size]; ((repeat' (first|(refine ag_false ?_ ?_ ?_;(focus (simp [go_sem, undef, hx2, ba_size];done));(focus (simp [go_sem];done));simp [go_sem, hx2, ba_size])|(refine ag_true ?_ ?_;(focus (simp [go_sem, undef, hx2, ba_size];done));simp [go_sem, hx2, ba_size])|(refine ag_x ?_;simp [go_sem, undef, hx2, ba_size])|intro _|apply And.intro|(apply Yh;clear Yh Y)));all_goals first|apply Hold.mk|omega|with_reducible assumption|skip))
  ((try refine CallT.toA ?_); refine callT_m (.inl ⟨rfl,rfl⟩) (by simp [go_sem]) ?_; intro args ha; simp [go_sem] at ha; subst ha; refine ⟨_, hI, ?_⟩; rintro _ rfl; simp [go_sem, hx2, ba_size]; ((repeat' (first|(refine ag_false ?_ ?_ ?_;(focus (simp [go_sem, undef, hx2, ba_size];done));(focus (simp [go_sem];done));simp [go_sem, hx2, ba_size])|(refine ag_true ?_ ?_;(focus (simp [go_sem, undef, hx2, ba_size];done));simp [go_sem, hx2, ba_size])|(refine ag_x ?_;simp [go_sem, undef, hx2, ba_size])|intro _|apply And.intro|(apply Yh;clear Yh Y)));all_goals first|apply Hold.mk|omega|with_reducible assumption|skip))
  by_cases hc : ofs.contains s[x] = true
  ·have h0 := hh.2 hc
   have := p1 hc
   (refine awp_if fun T F hT hF => ?_; simp [go_sem, h0]; refine hT ?_; clear hT hF T F)
   refine awp_skip ?_
   refine hK2 _ ?_; clear hK2
   refine awp_block ?_
   (refine awp_r fun Y Yh => ?_; simp [go_sem]; ((repeat' (first|(refine ag_x ?_;simp [go_sem])|intro _|apply And.intro|(apply Yh;clear Yh Y)));all_goals first|apply Hold.mk|omega|with_reducible assumption|skip))
   refine ⟨x + 1, ?_, by omega, by omega⟩
   (refine cov_of ?_ ?_ <;> simp [go_sem])
  ·have h0 : ¬ 0 ≤ v := fun q => hc (hh.1 q)
   rw [Bool.not_eq_true] at hc
   (refine awp_if fun T F hT hF => ?_; simp [go_sem, h0]; refine hF ?_; clear hT hF T F)
   refine awp_exit ?_
   simp only [go_sem]
   refine fin (p2 hc) _ ?_
   (refine cov_of ?_ ?_ <;> simp [go_sem])
 ·(refine awp_sr fun Y Yh => ?_; simp [go_sem, hx2, ba_size]; ((repeat' (first|(refine ag_false ?_ ?_ ?_;(focus (simp [go_sem, undef, hx2, ba_size];done));(focus (simp [go_sem];done));simp [go_sem, hx2, ba_size])|(refine ag_true ?_ ?_;(focus (simp [go_sem, undef, hx2, ba_size];done));simp [go_sem, hx2, ba_size])|(refine ag_x ?_;simp [go_sem, undef, hx2, ba_size])|intro _|apply And.intro|(apply Yh;clear Yh Y)));all_goals first|apply Hold.mk|omega|with_reducible assumption|skip))
  (refine awp_if fun T F hT hF => ?_; simp [go_sem, hx2]; refine hF ?_; clear hT hF T F)
  refine awp_exit ?_
  simp only [go_sem]
  refine fin (by omega) _ ?_
  (refine cov_of ?_ ?_ <;> simp [go_sem])
theorem take_dig (s : Bs) (hl : s.length ≤ 1000000000) : PCall Tryz.prog 106 [dS s, dS tenD] fun r => r = .tup [dS (s.takeWhile isDig), dS (s.dropWhile isDig)] := by
 have h := take_spec s tenD hl
 have e : (tenD.contains ·) = isDig := funext tenD_isDig
 rwa [e] at h
theorem sizN_step {d : Bs} {i : Nat} (h : i < d.length) : sizN 0 (d.take (i + 1)) = min (10 * sizN 0 (d.take i) + (d[i].toNat - 48)) 100000 := by
 unfold sizN
 rw [List.take_add_one, List.getElem?_eq_getElem h, List.foldl_append]
 rfl
theorem sizN_le (d : Bs) : sizN 0 d ≤ 100000 := by
 have : ∀ n, n ≤ 100000 → sizN n d ≤ 100000 := by
  induction d with
  | nil => intro n h; exact h
  | cons c r ih => intro n h; exact ih _ (Nat.min_le_right _ _)
 exact this 0 (by omega)
theorem pre_pk (c : UInt8) (s : Bs) (hc : c ≠ 0) : [c].isPrefixOf s = decide (pk s = c) := by
 rw [Bool.eq_iff_iff, decide_eq_true_eq]
 cases s with
 | nil => exact ⟨fun q => (by cases q), fun q => absurd q.symm hc⟩
 | cons a b =>
  have e : [c].isPrefixOf (a :: b) = (c == a && true) := rfl
  rw [e, Bool.and_true, beq_iff_eq]
  exact ⟨fun q => q.symm, fun q => Eq.symm q⟩
theorem tw_all {p : UInt8 → Bool} {s : Bs} {i : Nat} (h : i < (s.takeWhile p).length) : p (s.takeWhile p)[i] = true := List.all_eq_true.1 List.all_takeWhile _ (List.getElem_mem h)
set_option maxHeartbeats 8000000 in
theorem size_spec (s : Bs) (m : Int) (hl : s.length ≤ 1000000) : PCall Tryz.prog 107 [dS s, dI m] fun r => r = .tup [dI (sizeV m s).1, dS (sizeV m s).2.2, dB (sizeV m s).2.1] := by 
 refine pcall_of Tryz.func107 rfl rfl Tryz.ntmps107 (rs := [.tmp 4, .tmp 5, .tmp 6]) (tys := [3, 9, 4]) rfl rfl (by simp) ?_
 have hP := hasPre_spec s [42]
 rw [pre_pk 42 s (by decide)] at hP
 have hT := take_dig s (by omega)
 generalize hS : sizeV m s = R
 obtain ⟨r1, r2, r3⟩ := R
 unfold sizeV at hS
 (refine awp_sr fun Y Yh => ?_; simp [go_sem]; ((repeat' (first|(refine ag_x ?_;simp [go_sem])|intro _|apply And.intro|(apply Yh;clear Yh Y)));all_goals first|apply Hold.mk|omega|with_reducible assumption|skip))
 refine awp_seq_k fun K1 hK1 => ?_
 (refine awp_sr fun Y Yh => ?_; simp [go_sem]; ((repeat' (first|(refine ag_x ?_;simp [go_sem])|intro _|apply And.intro|(apply Yh;clear Yh Y)));all_goals first|apply Hold.mk|omega|with_reducible assumption|skip))
 ((try refine CallT.toA ?_); refine callT_m (.inl ⟨rfl,rfl⟩) (by simp [go_sem]) ?_; intro args ha; simp [go_sem] at ha; subst ha; refine ⟨_, hP, ?_⟩; rintro _ rfl; simp [go_sem]; ((repeat' (first|(refine ag_x ?_;simp [go_sem])|intro _|apply And.intro|(apply Yh;clear Yh Y)));all_goals first|apply Hold.mk|omega|with_reducible assumption|skip))
 by_cases h42 : pk s = 42
 ·rw [if_pos h42] at hS
  cases hS
  have hpos : 1 ≤ s.length := by
   cases s with
   | nil => exact absurd h42 (by decide)
   | cons _ _ => simp
  have hcut : ({ data := s.toArray } : ByteArray).extract 1 s.length = { data := s.tail.toArray } := by rw [ba_cut, List.take_of_length_le (Nat.le_refl _), List.drop_one]
  (refine awp_if fun T F hT hF => ?_; simp [go_sem, h42]; refine hT ?_; clear hT hF T F)
  ((refine awp_dr (.qs [0, 1, 2, 3, 4] (.nil)) (by kernel_rfl) ?_ ?_ ?_ ?_); (kernel_rfl); (exact (by decide +kernel)); (kernel_rfl); intro Y Yh; ((repeat' (first|(refine ag_x ?_;simp [go_sem, ba_size, hpos, hcut])|refine adr_nil ?_|((first|refine adr_qs fun Y Yh=>?_|refine adr_y fun Y Yh=>?_);simp [go_sem, ba_size, hpos, hcut])|intro _|apply And.intro|(apply Yh;clear Yh Y)));all_goals first|apply Hold.mk|omega|with_reducible assumption|skip))
  (refine awp_ret ?_; simp [go_sem])
 ·rw [if_neg h42] at hS
  (refine awp_if fun T F hT hF => ?_; simp [go_sem, h42]; refine hF ?_; clear hT hF T F)
  refine awp_skip ?_
  refine hK1 _ ?_; clear hK1
  have hall : ∀ i (h : i < (s.takeWhile isDig).length), isDig (s.takeWhile isDig)[i] = true := fun i h => tw_all h
  have htl := tw_le (p := isDig) s
  generalize s.takeWhile isDig = d at *
  generalize s.dropWhile isDig = rest at *
  (refine awp_sr fun Y Yh => ?_; simp [go_sem]; ((repeat' (first|(refine ag_x ?_;simp [go_sem])|intro _|apply And.intro|(apply Yh;clear Yh Y)));all_goals first|apply Hold.mk|omega|with_reducible assumption|skip))
  ((try refine CallT.toA ?_); refine callT_m (.inl ⟨rfl,rfl⟩) (by simp [go_sem]) ?_; intro args ha; simp [go_sem] at ha; subst ha; refine ⟨_, hT, ?_⟩; rintro _ rfl; simp [go_sem]; ((repeat' (first|(refine ag_x ?_;simp [go_sem])|intro _|apply And.intro|(apply Yh;clear Yh Y)));all_goals first|apply Hold.mk|omega|with_reducible assumption|skip))
  refine awp_seq_k fun K3 hK3 => ?_
  cases d with
  | nil =>
   rw [if_pos rfl] at hS
   cases hS
   (refine awp_sr fun Y Yh => ?_; simp [go_sem]; ((repeat' (first|(refine ag_x ?_;simp [go_sem])|intro _|apply And.intro|(apply Yh;clear Yh Y)));all_goals first|apply Hold.mk|omega|with_reducible assumption|skip))
   (refine awp_if fun T F hT hF => ?_; simp [go_sem]; refine hT ?_; clear hT hF T F)
   (refine awp_sr fun Y Yh => ?_; simp [go_sem]; ((repeat' (first|(refine ag_x ?_;simp [go_sem])|intro _|apply And.intro|(apply Yh;clear Yh Y)));all_goals first|apply Hold.mk|omega|with_reducible assumption|skip))
   (refine awp_ret ?_; simp [go_sem])
  | cons c0 d0 =>
   (refine awp_sr fun Y Yh => ?_; simp [go_sem]; ((repeat' (first|(refine ag_x ?_;simp [go_sem])|intro _|apply And.intro|(apply Yh;clear Yh Y)));all_goals first|apply Hold.mk|omega|with_reducible assumption|skip))
   (refine awp_if fun T F hT hF => ?_; simp [go_sem]; refine hF ?_; clear hT hF T F)
   refine awp_skip ?_
   refine hK3 _ ?_; clear hK3
   generalize hd : c0 :: d0 = d at *
   rw [if_neg (by rw [← hd]; simp)] at hS
   simp only [Prod.mk.injEq] at hS
   obtain ⟨rfl, rfl, rfl⟩ := hS
   (refine awp_sr fun Y Yh => ?_; simp [go_sem]; ((repeat' (first|(refine ag_x ?_;simp [go_sem])|intro _|apply And.intro|(apply Yh;clear Yh Y)));all_goals first|apply Hold.mk|omega|with_reducible assumption|skip))
   refine awp_seq_k fun K5 hK5 => ?_
   (refine awp_sr fun Y Yh => ?_; simp [go_sem]; ((repeat' (first|(refine ag_x ?_;simp [go_sem])|intro _|apply And.intro|(apply Yh;clear Yh Y)));all_goals first|apply Hold.mk|omega|with_reducible assumption|skip))
   refine awp_block ?_
   refine awp_loop (σ := Nat) (fun i => ⟨[(7, dS d), (8, dS rest), (9, dI (sizN 0 (d.take i))), (10, dI i)], []⟩) (fun i => i ≤ d.length) (fun i => d.length - i) 0 ?_ ?_ ?_
   ·(refine cov_of ?_ ?_ <;> simp [go_sem])
    rfl
   ·simp
   intro i hi
   refine awp_seq_k fun K6 hK6 => ?_
   have hn := sizN_le (d.take i)
   (refine awp_sr fun Y Yh => ?_; simp [go_sem, ba_size]; ((repeat' (first|(refine ag_x ?_;simp [go_sem, ba_size])|intro _|apply And.intro|(apply Yh;clear Yh Y)));all_goals first|apply Hold.mk|omega|with_reducible assumption|skip))
   by_cases h7 : i < d.length
   ·have hst := sizN_step h7
    have hdg := hall i h7
    have hd2 := (isDig_iff _).1 hdg
    skip
    generalize sizN 0 (d.take i) = N at *
    generalize hc : d[i] = c at *
    have hu : (IntKind.u8.wrap ((c.toNat : Int) - 48)) = ((c.toNat - 48 : Nat) : Int) := by rw [IntKind.wrap_u8]; omega
    (refine awp_if fun T F hT hF => ?_; simp [go_sem, h7]; refine hT ?_; clear hT hF T F)
    refine awp_skip ?_
    refine hK6 _ ?_; clear hK6
    refine awp_seq_k fun K8 hK8 => ?_
    refine awp_block ?_
    (refine awp_r fun Y Yh => ?_; simp [go_sem, h7, hc, hu, ba_size]; ((repeat' (first|(refine ag_x ?_;simp [go_sem, h7, hc, hu, ba_size])|intro _|apply And.intro|(apply Yh;clear Yh Y)));all_goals first|apply Hold.mk|omega|with_reducible assumption|skip))
    refine hK8 _ ?_; clear hK8
    (refine awp_r fun Y Yh => ?_; simp [go_sem]; ((repeat' (first|(refine ag_x ?_;simp [go_sem])|intro _|apply And.intro|(apply Yh;clear Yh Y)));all_goals first|apply Hold.mk|omega|with_reducible assumption|skip))
    refine ⟨i + 1, ?_, by omega, by omega⟩
    (refine cov_of ?_ ?_ <;> simp [go_sem])
    rw [hst]
    omega
   ·have : i = d.length := by omega
    subst this
    rw [List.take_length] at *
    (refine awp_if fun T F hT hF => ?_; simp [go_sem, h7]; refine hF ?_; clear hT hF T F)
    refine awp_exit ?_
    simp only [go_sem]
    refine hK5 _ ?_; clear hK5
    generalize sizN 0 d = N at *
    (refine awp_sr fun Y Yh => ?_; simp [go_sem]; ((repeat' (first|(refine ag_x ?_;simp [go_sem])|intro _|apply And.intro|(apply Yh;clear Yh Y)));all_goals first|apply Hold.mk|omega|with_reducible assumption|skip))
    (refine awp_ret ?_; simp [go_sem])
    omega
end Go.Proofs.YtelhdhofnohkcaaGreatDoor
namespace Go.Fm
/-! the table of the quoting -/
def spc (c : UInt8) : Bool := c == 10 || c == 34 || c == 92
def cntS (s : List UInt8) : Nat := (s.filter spc).length
theorem quoC_spc {c : UInt8} (h : spc c = true) : quoC c = [92, if c = 10 then 110 else c] := by
 unfold spc at h
 simp only [Bool.or_eq_true, beq_iff_eq] at h
 rcases h with (rfl | rfl) | rfl <;> rfl
theorem quoC_no {c : UInt8} (h : spc c = false) : quoC c = [c] := by
 unfold spc at h
 simp only [Bool.or_eq_false_iff, beq_eq_false_iff_ne] at h
 unfold quoC
 rw [if_neg (by rintro (q | q) <;> simp_all), if_neg h.1.1]
theorem quo_len (s : List UInt8) : (s.flatMap quoC).length = s.length + cntS s := by
 induction s with
 | nil => rfl
 | cons c s ih =>
  simp only [List.flatMap_cons, List.length_append, List.length_cons, ih, cntS, List.filter_cons]
  cases h : spc c
  ·rw [quoC_no h]; simp; omega
  ·rw [quoC_spc h]; simp; omega
theorem quo_none {s : List UInt8} (h : cntS s = 0) : s.flatMap quoC = s := by
 induction s with
 | nil => rfl
 | cons c s ih =>
  simp only [cntS, List.filter_cons] at h
  cases hc : spc c
  ·rw [hc] at h
   rw [List.flatMap_cons, quoC_no hc, ih (by simpa [cntS] using h)]; rfl
  ·rw [hc] at h; simp at h
theorem cntS_take {s : List UInt8} {i : Nat} (h : i < s.length) : cntS (s.take (i + 1)) = cntS (s.take i) + if spc s[i] then 1 else 0 := by
 rw [List.take_add_one, List.getElem?_eq_getElem h]
 simp only [cntS, Option.toList_some, List.filter_append, List.length_append, List.filter_cons, List.filter_nil]
 cases spc s[i] <;> rfl
theorem cntS_le (s : List UInt8) : cntS s ≤ s.length := List.length_filter_le _ _
theorem quo_take {s : List UInt8} {i : Nat} (h : i < s.length) : (s.take (i + 1)).flatMap quoC = (s.take i).flatMap quoC ++ quoC s[i] := by
 rw [List.take_add_one, List.getElem?_eq_getElem h]; simp only [Option.toList_some, List.flatMap_append, List.flatMap_cons, List.flatMap_nil, List.append_nil]
theorem cntS_parts (s : List UInt8) : s.count 10 + s.count 34 + s.count 92 = cntS s := by
 induction s with
 | nil => rfl
 | cons c s ih =>
  simp only [List.count_cons, cntS, List.filter_cons] at ih ⊢
  by_cases h1 : c = 10
  ·subst h1; simp [spc]; omega
  ·by_cases h2 : c = 34
   ·subst h2; simp [spc]; omega
   ·by_cases h3 : c = 92
    ·subst h3; simp [spc]; omega
    ·simp [spc, h1, h2, h3]; omega
theorem quo_le (s : List UInt8) (i : Nat) : ((s.take i).flatMap quoC).length ≤ (s.flatMap quoC).length := by
 have h : s.flatMap quoC = (s.take i).flatMap quoC ++ (s.drop i).flatMap quoC := by rw [← List.flatMap_append, List.take_append_drop]
 rw [h, List.length_append]
 omega
def qF (s : List UInt8) : List UInt8 := s.flatMap quoC
theorem qF_len (s : List UInt8) : (qF s).length = s.length + cntS s := quo_len s
theorem qF_none {s : List UInt8} (h : cntS s = 0) : qF s = s := quo_none h
theorem qF_take {s : List UInt8} {i : Nat} (h : i < s.length) : qF (s.take (i + 1)) = qF (s.take i) ++ quoC s[i] := quo_take h
theorem qF_le (s : List UInt8) (i : Nat) : (qF (s.take i)).length ≤ (qF s).length := quo_le s i
theorem qF_nil : qF [] = [] := rfl
theorem quoV_qF (s : List UInt8) : quoV s = 34 :: qF s ++ [34] := rfl
end Go.Fm
namespace Go.Proofs.YtelhdhofnohkcaaGreatDoor
open Go.Eng Go.Fm
set_option maxRecDepth 20000
attribute [local irreducible] AG CallA CallT AWp PCall ACall AgC
theorem contains_spec (s : Bs) (c : UInt8) : PCall Tryz.prog 101 [dS s, dS [c]] fun r => r = dB (s.contains c) := by
 refine pcall_below ⟨_, Tryz.func101, rfl, rfl⟩ fun C w us hc hg hr => ?_
 obtain rfl := repL_v (us := [.string ⟨s.toArray⟩, .string ⟨[c].toArray⟩]) hr
 refine (Tryz.strings_Contains_one ⟨s.toArray⟩ c w).mono ?_
 rintro e w' ⟨rfl, rfl⟩
 refine ⟨_, _, rfl, ?_, .v _, RowKit.Below.refl _ _⟩
 have e : decide (0 ≤ Lib.indexByte (⟨s.toArray⟩ : ByteArray).data.toList c) = s.contains c := by
  have h1 : (⟨s.toArray⟩ : ByteArray).data.toList = s := by simp
  rw [h1, indexByte_find, Bool.eq_iff_iff, decide_eq_true_eq]
  exact idx_has s c
 rw [e]
def filV (s : Bs) (w : Int) (l : Bool) : Bs := if w - s.length ≤ 0 then s else if l then s ++ rep 32 (w - s.length) else rep 32 (w - s.length) ++ s
theorem filV_pad (f : Fld) (s : Bs) : paddedV f s = filV s f.wd f.lf := rfl
set_option maxHeartbeats 8000000 in
theorem rfilled_spec (s : Bs) (w : Int) (l : Bool) (hl : s.length ≤ 1000000000) (hw : w ≤ 1000000) (hw2 : -1000000 ≤ w) : PCall Tryz.prog 40 [dS s, dI w, dB l] fun r => r = dS (filV s w l) := by 
 refine pcall_of Tryz.func40 rfl rfl Tryz.ntmps40 (rs := [.tmp 6]) (tys := [9]) rfl rfl (by simp) ?_
 let T : Nat → Bs := fun x => if l then s ++ List.replicate x 32 else List.replicate x 32 ++ s
 have hT : ∀ x, T x = if l then s ++ List.replicate x 32 else List.replicate x 32 ++ s := fun _ => rfl
 have hTl : ∀ x, (T x).length = s.length + x := fun x => by rw [hT]; split <;> simp <;> omega
 have hT0 : T 0 = s := by rw [hT]; simp
 have hTs : ∀ x, T (x + 1) = if l then T x ++ [32] else 32 :: T x := fun x => by
  rw [hT, hT]
  cases l <;> simp [List.replicate_succ, List.replicate_succ']
  rw [← List.replicate_succ, List.replicate_succ']
 have hV : filV s w l = T (w - s.length).toNat := by
  rw [hT]
  unfold filV rep
  by_cases h : w - s.length ≤ 0
  ·rw [if_pos h, show (w - (s.length : Int)).toNat = 0 by omega]; simp
  ·rw [if_neg h]
 rw [hV]
 clear hV hT
 generalize T = T at *
 rw [← hT0]
 have e0 : (T 0).length = s.length := by rw [hT0]
 rw [e0]
 (refine awp_sr fun Y Yh => ?_; simp [go_sem]; ((repeat' (first|(refine ag_x ?_;simp [go_sem])|intro _|apply And.intro|(apply Yh;clear Yh Y)));all_goals first|apply Hold.mk|omega|with_reducible assumption|skip))
 refine awp_seq_k fun K1 hK1 => ?_
 refine awp_block ?_
 refine awp_loop (σ := Nat) (fun x => ⟨[(0, dS (T x)), (1, dI w), (2, dB l)], []⟩) (fun x => x ≤ (w - s.length).toNat) (fun x => (w - s.length).toNat - x) 0 ?_ ?_ ?_
 ·(refine cov_of ?_ ?_ <;> simp [go_sem])
 ·simp
 intro x hx
 refine awp_seq_k fun K2 hK2 => ?_
 have hsz := hTl x
 have hst := hTs x
 (refine awp_sr fun Y Yh => ?_; simp [go_sem, ba_size, hsz]; ((repeat' (first|(refine ag_x ?_;simp [go_sem, ba_size, hsz])|intro _|apply And.intro|(apply Yh;clear Yh Y)));all_goals first|apply Hold.mk|omega|with_reducible assumption|skip))
 by_cases h3 : (s.length : Int) + x < w
 ·(refine awp_if fun T F hT hF => ?_; simp [go_sem, h3]; refine hT ?_; clear hT hF T F)
  refine awp_skip ?_
  refine hK2 _ ?_; clear hK2
  refine awp_block ?_
  (refine awp_sr fun Y Yh => ?_; simp [go_sem]; ((repeat' (first|(refine ag_x ?_;simp [go_sem])|intro _|apply And.intro|(apply Yh;clear Yh Y)));all_goals first|apply Hold.mk|omega|with_reducible assumption|skip))
  cases l with
  | true =>
   (refine awp_if fun T F hT hF => ?_; simp [go_sem]; refine hT ?_; clear hT hF T F)
   (refine awp_r fun Y Yh => ?_; simp [go_sem, ba_app, ba_size, hsz]; ((repeat' (first|(refine ag_x ?_;simp [go_sem, ba_app, ba_size, hsz])|intro _|apply And.intro|(apply Yh;clear Yh Y)));all_goals first|apply Hold.mk|omega|with_reducible assumption|skip))
   refine ⟨x + 1, ?_, by omega, by omega⟩
   rw [hst]
   (refine cov_of ?_ ?_ <;> simp [go_sem])
  | false =>
   (refine awp_if fun T F hT hF => ?_; simp [go_sem]; refine hF ?_; clear hT hF T F)
   (refine awp_r fun Y Yh => ?_; simp [go_sem, ba_app, ba_size, hsz]; ((repeat' (first|(refine ag_x ?_;simp [go_sem, ba_app, ba_size, hsz])|intro _|apply And.intro|(apply Yh;clear Yh Y)));all_goals first|apply Hold.mk|omega|with_reducible assumption|skip))
   refine ⟨x + 1, ?_, by omega, by omega⟩
   rw [hst]
   (refine cov_of ?_ ?_ <;> simp [go_sem])
 ·(refine awp_if fun T F hT hF => ?_; simp [go_sem, h3]; refine hF ?_; clear hT hF T F)
  refine awp_exit ?_
  simp only [go_sem]
  refine hK1 _ ?_; clear hK1
  have hx : x = (w - s.length).toNat := by omega
  subst hx
  (refine awp_sr fun Y Yh => ?_; simp [go_sem]; ((repeat' (first|(refine ag_x ?_;simp [go_sem])|intro _|apply And.intro|(apply Yh;clear Yh Y)));all_goals first|apply Hold.mk|omega|with_reducible assumption|skip))
  (refine awp_ret ?_; simp [go_sem])
theorem rbase_spec (c : UInt8) : PCall Tryz.prog 167 [dU c] fun r => r = dI (baseV c : Nat) := by 
 refine pcall_of Tryz.func167 rfl rfl Tryz.ntmps167 (rs := [.tmp 2]) (tys := [3]) rfl rfl (by simp) ?_
 have b1 : decide ((c.toNat : Int) = 100) = decide (c = 100) := u8_eqb _ 100 (by decide)
 have b2 : decide ((c.toNat : Int) = 111) = decide (c = 111) := u8_eqb _ 111 (by decide)
 have b3 : decide ((c.toNat : Int) = 98) = decide (c = 98) := u8_eqb _ 98 (by decide)
 unfold baseV
 (refine awp_sr fun Y Yh => ?_; simp [go_sem]; ((repeat' (first|(refine ag_x ?_;simp [go_sem])|intro _|apply And.intro|(apply Yh;clear Yh Y)));all_goals first|apply Hold.mk|omega|with_reducible assumption|skip))
 refine awp_seq_k fun K1 hK1 => ?_
 (refine awp_sr fun Y Yh => ?_; simp [go_sem]; ((repeat' (first|(refine ag_x ?_;simp [go_sem])|intro _|apply And.intro|(apply Yh;clear Yh Y)));all_goals first|apply Hold.mk|omega|with_reducible assumption|skip))
 refine awp_block ?_
 (refine awp_sr fun Y Yh => ?_; simp [go_sem, b1]; ((repeat' (first|(refine ag_x ?_;simp [go_sem, b1])|intro _|apply And.intro|(apply Yh;clear Yh Y)));all_goals first|apply Hold.mk|omega|with_reducible assumption|skip))
 by_cases h1 : c = 100
 ·(refine awp_if fun T F hT hF => ?_; simp [go_sem, h1]; refine hT ?_; clear hT hF T F)
  (refine awp_sr fun Y Yh => ?_; simp [go_sem]; ((repeat' (first|(refine ag_x ?_;simp [go_sem])|intro _|apply And.intro|(apply Yh;clear Yh Y)));all_goals first|apply Hold.mk|omega|with_reducible assumption|skip))
  (refine awp_ret ?_; simp [go_sem, h1])
 ·(refine awp_if fun T F hT hF => ?_; simp [go_sem, h1]; refine hF ?_; clear hT hF T F)
  (refine awp_sr fun Y Yh => ?_; simp [go_sem, b2]; ((repeat' (first|(refine ag_x ?_;simp [go_sem, b2])|intro _|apply And.intro|(apply Yh;clear Yh Y)));all_goals first|apply Hold.mk|omega|with_reducible assumption|skip))
  by_cases h2 : c = 111
  ·(refine awp_if fun T F hT hF => ?_; simp [go_sem, h2]; refine hT ?_; clear hT hF T F)
   (refine awp_sr fun Y Yh => ?_; simp [go_sem]; ((repeat' (first|(refine ag_x ?_;simp [go_sem])|intro _|apply And.intro|(apply Yh;clear Yh Y)));all_goals first|apply Hold.mk|omega|with_reducible assumption|skip))
   (refine awp_ret ?_; simp [go_sem, h2])
  ·(refine awp_if fun T F hT hF => ?_; simp [go_sem, h2]; refine hF ?_; clear hT hF T F)
   (refine awp_sr fun Y Yh => ?_; simp [go_sem, b3]; ((repeat' (first|(refine ag_x ?_;simp [go_sem, b3])|intro _|apply And.intro|(apply Yh;clear Yh Y)));all_goals first|apply Hold.mk|omega|with_reducible assumption|skip))
   by_cases h3 : c = 98
   ·(refine awp_if fun T F hT hF => ?_; simp [go_sem, h3]; refine hT ?_; clear hT hF T F)
    (refine awp_sr fun Y Yh => ?_; simp [go_sem]; ((repeat' (first|(refine ag_x ?_;simp [go_sem])|intro _|apply And.intro|(apply Yh;clear Yh Y)));all_goals first|apply Hold.mk|omega|with_reducible assumption|skip))
    (refine awp_ret ?_; simp [go_sem, h3])
   ·(refine awp_if fun T F hT hF => ?_; simp [go_sem, h3]; refine hF ?_; clear hT hF T F)
    refine awp_skip ?_
    refine hK1 _ ?_; clear hK1
    (refine awp_sr fun Y Yh => ?_; simp [go_sem]; ((repeat' (first|(refine ag_x ?_;simp [go_sem])|intro _|apply And.intro|(apply Yh;clear Yh Y)));all_goals first|apply Hold.mk|omega|with_reducible assumption|skip))
    (refine awp_ret ?_; simp [go_sem, h1, h2, h3])
theorem rprefix_spec (c : UInt8) (d : Bs) : PCall Tryz.prog 168 [dU c, dS d] fun r => r = dS (Fm.preV c d) := by 
 refine pcall_of Tryz.func168 rfl rfl Tryz.ntmps168 (rs := [.tmp 4]) (tys := [9]) rfl rfl (by simp) ?_
 have b1 : decide ((c.toNat : Int) = 120) = decide (c = 120) := u8_eqb _ 120 (by decide)
 have b2 : decide ((c.toNat : Int) = 88) = decide (c = 88) := u8_eqb _ 88 (by decide)
 have b3 : decide ((c.toNat : Int) = 98) = decide (c = 98) := u8_eqb _ 98 (by decide)
 have b4 : decide ((c.toNat : Int) = 111) = decide (c = 111) := u8_eqb _ 111 (by decide)
 have hP := hasPre_spec d [48]
 rw [pre_pk 48 d (by decide)] at hP
 have hpk : pk d = 48 ↔ d.head? = some 48 := by
  cases d with
  | nil => simp [pk]
  | cons a b => simp [pk]
 generalize hV : Fm.preV c d = V
 unfold Fm.preV at hV
 (refine awp_sr fun Y Yh => ?_; simp [go_sem]; ((repeat' (first|(refine ag_x ?_;simp [go_sem])|intro _|apply And.intro|(apply Yh;clear Yh Y)));all_goals first|apply Hold.mk|omega|with_reducible assumption|skip))
 refine awp_seq_k fun K1 hK1 => ?_
 have tl1 : ∀ S', V = [] → Cov S' ⟨[], []⟩ → K1 S' := fun S' hv hS => by
  refine hK1 _ ?_; clear hK1
  refine awp_cov hS ?_; clear hS
  (refine awp_sr fun Y Yh => ?_; simp [go_sem]; ((repeat' (first|(refine ag_x ?_;simp [go_sem])|intro _|apply And.intro|(apply Yh;clear Yh Y)));all_goals first|apply Hold.mk|omega|with_reducible assumption|skip))
  (refine awp_ret ?_; simp [go_sem, hv])
 clear hK1
 (refine awp_sr fun Y Yh => ?_; simp [go_sem]; ((repeat' (first|(refine ag_x ?_;simp [go_sem])|intro _|apply And.intro|(apply Yh;clear Yh Y)));all_goals first|apply Hold.mk|omega|with_reducible assumption|skip))
 refine awp_block ?_
 (refine awp_sr fun Y Yh => ?_; simp [go_sem, b1]; ((repeat' (first|(refine ag_x ?_;simp [go_sem, b1])|intro _|apply And.intro|(apply Yh;clear Yh Y)));all_goals first|apply Hold.mk|omega|with_reducible assumption|skip))
 by_cases h1 : c = 120
 ·rw [if_pos h1] at hV
  (refine awp_if fun T F hT hF => ?_; simp [go_sem, h1]; refine hT ?_; clear hT hF T F)
  (refine awp_sr fun Y Yh => ?_; simp [go_sem]; ((repeat' (first|(refine ag_x ?_;simp [go_sem])|intro _|apply And.intro|(apply Yh;clear Yh Y)));all_goals first|apply Hold.mk|omega|with_reducible assumption|skip))
  (refine awp_ret ?_; simp [go_sem, hV.symm])
 ·rw [if_neg h1] at hV
  (refine awp_if fun T F hT hF => ?_; simp [go_sem, h1]; refine hF ?_; clear hT hF T F)
  (refine awp_sr fun Y Yh => ?_; simp [go_sem, b2]; ((repeat' (first|(refine ag_x ?_;simp [go_sem, b2])|intro _|apply And.intro|(apply Yh;clear Yh Y)));all_goals first|apply Hold.mk|omega|with_reducible assumption|skip))
  by_cases h2 : c = 88
  ·rw [if_pos h2] at hV
   (refine awp_if fun T F hT hF => ?_; simp [go_sem, h2]; refine hT ?_; clear hT hF T F)
   (refine awp_sr fun Y Yh => ?_; simp [go_sem]; ((repeat' (first|(refine ag_x ?_;simp [go_sem])|intro _|apply And.intro|(apply Yh;clear Yh Y)));all_goals first|apply Hold.mk|omega|with_reducible assumption|skip))
   (refine awp_ret ?_; simp [go_sem, hV.symm])
  ·rw [if_neg h2] at hV
   (refine awp_if fun T F hT hF => ?_; simp [go_sem, h2]; refine hF ?_; clear hT hF T F)
   (refine awp_sr fun Y Yh => ?_; simp [go_sem, b3]; ((repeat' (first|(refine ag_x ?_;simp [go_sem, b3])|intro _|apply And.intro|(apply Yh;clear Yh Y)));all_goals first|apply Hold.mk|omega|with_reducible assumption|skip))
   by_cases h3 : c = 98
   ·rw [if_pos h3] at hV
    (refine awp_if fun T F hT hF => ?_; simp [go_sem, h3]; refine hT ?_; clear hT hF T F)
    (refine awp_sr fun Y Yh => ?_; simp [go_sem]; ((repeat' (first|(refine ag_x ?_;simp [go_sem])|intro _|apply And.intro|(apply Yh;clear Yh Y)));all_goals first|apply Hold.mk|omega|with_reducible assumption|skip))
    (refine awp_ret ?_; simp [go_sem, hV.symm])
   ·rw [if_neg h3] at hV
    (refine awp_if fun T F hT hF => ?_; simp [go_sem, h3]; refine hF ?_; clear hT hF T F)
    (refine awp_sr fun Y Yh => ?_; simp [go_sem, b4]; ((repeat' (first|(refine ag_x ?_;simp [go_sem, b4])|intro _|apply And.intro|(apply Yh;clear Yh Y)));all_goals first|apply Hold.mk|omega|with_reducible assumption|skip))
    by_cases h4 : c = 111
    ·(refine awp_if fun T F hT hF => ?_; simp [go_sem, h4]; refine hT ?_; clear hT hF T F)
     (refine awp_sr fun Y Yh => ?_; simp [go_sem]; ((repeat' (first|(refine ag_x ?_;simp [go_sem])|intro _|apply And.intro|(apply Yh;clear Yh Y)));all_goals first|apply Hold.mk|omega|with_reducible assumption|skip))
     ((try refine CallT.toA ?_); refine callT_m (.inl ⟨rfl,rfl⟩) (by simp [go_sem]) ?_; intro args ha; simp [go_sem] at ha; subst ha; refine ⟨_, hP, ?_⟩; rintro _ rfl; simp [go_sem]; ((repeat' (first|(refine ag_x ?_;simp [go_sem])|intro _|apply And.intro|(apply Yh;clear Yh Y)));all_goals first|apply Hold.mk|omega|with_reducible assumption|skip))
     by_cases h5 : pk d = 48
     ·rw [if_neg (by rintro ⟨_, q⟩; exact q (hpk.1 h5))] at hV
      (refine awp_if fun T F hT hF => ?_; simp [go_sem, h5]; refine hF ?_; clear hT hF T F)
      refine awp_skip ?_
      refine tl1 _ hV.symm ?_
      (refine cov_of ?_ ?_ <;> simp [go_sem])
     ·rw [if_pos ⟨h4, fun q => h5 (hpk.2 q)⟩] at hV
      (refine awp_if fun T F hT hF => ?_; simp [go_sem, h5]; refine hT ?_; clear hT hF T F)
      (refine awp_sr fun Y Yh => ?_; simp [go_sem]; ((repeat' (first|(refine ag_x ?_;simp [go_sem])|intro _|apply And.intro|(apply Yh;clear Yh Y)));all_goals first|apply Hold.mk|omega|with_reducible assumption|skip))
      (refine awp_ret ?_; simp [go_sem, hV.symm])
    ·rw [if_neg (fun q => h4 q.1)] at hV
     (refine awp_if fun T F hT hF => ?_; simp [go_sem, h4]; refine hF ?_; clear hT hF T F)
     refine awp_skip ?_
     refine tl1 _ hV.symm ?_
     (refine cov_of ?_ ?_ <;> simp [go_sem])
theorem rtext_spec (a : Ag) (h : InR a.int) : PCall Tryz.prog 132 [dA a] fun r => r = dS (textV a) := by 
 refine pcall_of Tryz.func132 rfl rfl Tryz.ntmps132 (rs := [.tmp 2]) (tys := [9]) rfl rfl (by simp) ?_
 unfold textV
 cases hi : a.is with
 | true =>
  (refine awp_sr fun Y Yh => ?_; simp [go_sem, hi]; ((repeat' (first|(refine ag_x ?_;simp [go_sem, hi])|intro _|apply And.intro|(apply Yh;clear Yh Y)));all_goals first|apply Hold.mk|omega|with_reducible assumption|skip))
  refine awp_seq_k fun K1 hK1 => ?_
  (refine awp_sr fun Y Yh => ?_; simp [go_sem]; ((repeat' (first|(refine ag_x ?_;simp [go_sem])|intro _|apply And.intro|(apply Yh;clear Yh Y)));all_goals first|apply Hold.mk|omega|with_reducible assumption|skip))
  (refine awp_if fun T F hT hF => ?_; simp [go_sem]; refine hT ?_; clear hT hF T F)
  (refine awp_sr fun Y Yh => ?_; simp [go_sem]; ((repeat' (first|(refine ag_x ?_;simp [go_sem])|intro _|apply And.intro|(apply Yh;clear Yh Y)));all_goals first|apply Hold.mk|omega|with_reducible assumption|skip))
  (refine awp_ret ?_; simp [go_sem])
 | false =>
  (refine awp_sr fun Y Yh => ?_; simp [go_sem, hi]; ((repeat' (first|(refine ag_x ?_;simp [go_sem, hi])|intro _|apply And.intro|(apply Yh;clear Yh Y)));all_goals first|apply Hold.mk|omega|with_reducible assumption|skip))
  refine awp_seq_k fun K1 hK1 => ?_
  (refine awp_sr fun Y Yh => ?_; simp [go_sem]; ((repeat' (first|(refine ag_x ?_;simp [go_sem])|intro _|apply And.intro|(apply Yh;clear Yh Y)));all_goals first|apply Hold.mk|omega|with_reducible assumption|skip))
  (refine awp_if fun T F hT hF => ?_; simp [go_sem]; refine hF ?_; clear hT hF T F)
  refine awp_skip ?_
  refine hK1 _ ?_; clear hK1
  (refine awp_sr fun Y Yh => ?_; simp [go_sem]; ((repeat' (first|(refine ag_x ?_;simp [go_sem])|intro _|apply And.intro|(apply Yh;clear Yh Y)));all_goals first|apply Hold.mk|omega|with_reducible assumption|skip))
  ((try refine CallT.toA ?_); refine callT_m (.inl ⟨rfl,rfl⟩) (by simp [go_sem]) ?_; intro args ha; simp [go_sem] at ha; subst ha; refine ⟨_, (itoa_spec a.int h), ?_⟩; rintro _ rfl; simp [go_sem]; ((repeat' (first|(refine ag_x ?_;simp [go_sem])|intro _|apply And.intro|(apply Yh;clear Yh Y)));all_goals first|apply Hold.mk|omega|with_reducible assumption|skip))
  (refine awp_ret ?_; simp [go_sem])
set_option maxHeartbeats 8000000 in
theorem rquoted_spec (s : Bs) (hl : s.length ≤ 1100000) : PCall Tryz.prog 133 [dS s] fun r => r = dS (quoV s) := by 
 refine pcall_of Tryz.func133 rfl rfl Tryz.ntmps133 (rs := [.tmp 2]) (tys := [9]) rfl rfl (by simp) ?_
 have hq := quoV_qF s
 let T : Nat → Bs := fun i => 34 :: qF (s.take i)
 have hT0 : T 0 = [34] := by show 34 :: qF (s.take 0) = _; rw [List.take_zero, qF_nil]
 have hTe : T s.length ++ [34] = quoV s := by show 34 :: qF (s.take s.length) ++ [34] = _; rw [List.take_length, hq]
 have hTs : ∀ i (h : i < s.length), T (i + 1) = T i ++ quoC s[i] := fun i h => by show 34 :: qF (s.take (i + 1)) = 34 :: qF (s.take i) ++ _; rw [qF_take h]; rfl
 have hTl : ∀ i, (T i).length ≤ 3000000 := fun i => by
  show (34 :: qF (s.take i)).length ≤ _
  have h1 := qF_le s i
  have h2 := qF_len s
  have h3 := cntS_le s
  simp only [List.length_cons]; omega
 rw [← hTe]
 clear hq hTe
 generalize T = T at *
 (refine awp_sr fun Y Yh => ?_; simp [go_sem]; ((repeat' (first|(refine ag_x ?_;simp [go_sem])|intro _|apply And.intro|(apply Yh;clear Yh Y)));all_goals first|apply Hold.mk|omega|with_reducible assumption|skip))
 (refine awp_sr fun Y Yh => ?_; simp [go_sem]; ((repeat' (first|(refine ag_x ?_;simp [go_sem])|intro _|apply And.intro|(apply Yh;clear Yh Y)));all_goals first|apply Hold.mk|omega|with_reducible assumption|skip))
 refine awp_seq_k fun K1 hK1 => ?_
 (refine awp_sr fun Y Yh => ?_; simp [go_sem]; ((repeat' (first|(refine ag_x ?_;simp [go_sem])|intro _|apply And.intro|(apply Yh;clear Yh Y)));all_goals first|apply Hold.mk|omega|with_reducible assumption|skip))
 refine awp_block ?_
 refine awp_loop (σ := Nat) (fun i => ⟨[(0, dS s), (3, dS (T i)), (4, dI i)], []⟩) (fun i => i ≤ s.length) (fun i => s.length - i) 0 ?_ ?_ ?_
 ·(refine cov_of ?_ ?_ <;> simp [go_sem, hT0])
 ·simp
 intro i hi
 refine awp_seq_k fun K2 hK2 => ?_
 (refine awp_sr fun Y Yh => ?_; simp [go_sem, ba_size]; ((repeat' (first|(refine ag_x ?_;simp [go_sem, ba_size])|intro _|apply And.intro|(apply Yh;clear Yh Y)));all_goals first|apply Hold.mk|omega|with_reducible assumption|skip))
 by_cases h3 : i < s.length
 ·have hst := hTs i h3
  have htl := hTl i
  (refine awp_if fun T F hT hF => ?_; simp [go_sem, h3]; refine hT ?_; clear hT hF T F)
  refine awp_skip ?_
  refine hK2 _ ?_; clear hK2
  refine awp_seq_k fun K4 hK4 => ?_
  have tl4 : ∀ S', Cov S' ⟨[(0, dS s), (3, dS (T i ++ quoC s[i])), (4, dI i)], []⟩ → K4 S' := fun S' hS => by
   refine hK4 _ ?_; clear hK4
   refine awp_cov hS ?_; clear hS
   (refine awp_r fun Y Yh => ?_; simp [go_sem]; ((repeat' (first|(refine ag_x ?_;simp [go_sem])|intro _|apply And.intro|(apply Yh;clear Yh Y)));all_goals first|apply Hold.mk|omega|with_reducible assumption|skip))
   refine ⟨i + 1, ?_, by omega, by omega⟩
   rw [hst]
   (refine cov_of ?_ ?_ <;> simp [go_sem])
  clear hK4
  have hcut : ({ data := s.toArray } : ByteArray).extract i (i + 1) = { data := [s[i]].toArray } := by
   rw [ba_cut, List.drop_take, List.drop_eq_getElem_cons h3, show i + 1 - i = 1 by omega]
   rfl
  have hcut2 : ({ data := s.toArray } : ByteArray).extract i ((i : Int) + 1).toNat = { data := [s[i]].toArray } := by
   rw [show ((i : Int) + 1).toNat = i + 1 by omega]; exact hcut
  have hi1 : (i : Int) + 1 ≤ s.length := by omega
  generalize hc : s[i] = c at *
  have b1 : decide ((c.toNat : Int) = 92) = decide (c = 92) := u8_eqb _ 92 (by decide)
  have b2 : decide ((c.toNat : Int) = 34) = decide (c = 34) := u8_eqb _ 34 (by decide)
  have b3 : decide ((c.toNat : Int) = 10) = decide (c = 10) := u8_eqb _ 10 (by decide)
  refine awp_block ?_
  (refine awp_sr fun Y Yh => ?_; simp [go_sem, h3, hc, ba_size]; ((repeat' (first|(refine ag_x ?_;simp [go_sem, h3, hc, ba_size])|intro _|apply And.intro|(apply Yh;clear Yh Y)));all_goals first|apply Hold.mk|omega|with_reducible assumption|skip))
  refine awp_block ?_
  refine awp_seq_k fun K5 hK5 => ?_
  have tl5 : ∀ S', Cov S' ⟨[(0, dS s), (3, dS (T i)), (4, dI i), (13, dU c), (21, dB (decide (c = 92 ∨ c = 34)))], []⟩ → K5 S' := fun S' hS => by
   refine hK5 _ ?_; clear hK5
   refine awp_cov hS ?_; clear hS
   by_cases h6 : c = 92 ∨ c = 34
   ·have e : quoC c = [92, c] := by unfold quoC; rw [if_pos h6]
    have hd : (decide (c = 92) || decide (c = 34)) = true := by simpa using h6
    rw [e] at tl4
    (refine awp_if fun T F hT hF => ?_; simp [go_sem, hd]; refine hT ?_; clear hT hF T F)
    (refine awp_r fun Y Yh => ?_; simp [go_sem, ba_size, ba_app, hcut, hcut2, hi1]; ((repeat' (first|(refine ag_x ?_;simp [go_sem, ba_size, ba_app, hcut, hcut2, hi1])|intro _|apply And.intro|(apply Yh;clear Yh Y)));all_goals first|apply Hold.mk|omega|with_reducible assumption|skip))
    refine tl4 _ ?_
    (refine cov_of ?_ ?_ <;> simp [go_sem])
   ·have hd : (decide (c = 92) || decide (c = 34)) = false := by
     rw [Bool.eq_false_iff]; intro q; exact h6 (by simpa using q)
    (refine awp_if fun T F hT hF => ?_; simp [go_sem, hd]; refine hF ?_; clear hT hF T F)
    (refine awp_sr fun Y Yh => ?_; simp [go_sem, b3]; ((repeat' (first|(refine ag_x ?_;simp [go_sem, b3])|intro _|apply And.intro|(apply Yh;clear Yh Y)));all_goals first|apply Hold.mk|omega|with_reducible assumption|skip))
    by_cases h7 : c = 10
    ·have e : quoC c = [92, 110] := by unfold quoC; rw [if_neg h6, if_pos h7]
     rw [e] at tl4
     (refine awp_if fun T F hT hF => ?_; simp [go_sem, h7]; refine hT ?_; clear hT hF T F)
     (refine awp_r fun Y Yh => ?_; simp [go_sem, ba_size, ba_app]; ((repeat' (first|(refine ag_x ?_;simp [go_sem, ba_size, ba_app])|intro _|apply And.intro|(apply Yh;clear Yh Y)));all_goals first|apply Hold.mk|omega|with_reducible assumption|skip))
     refine tl4 _ ?_
     (refine cov_of ?_ ?_ <;> simp [go_sem])
    ·have e : quoC c = [c] := by unfold quoC; rw [if_neg h6, if_neg h7]
     rw [e] at tl4
     (refine awp_if fun T F hT hF => ?_; simp [go_sem, h7]; refine hF ?_; clear hT hF T F)
     (refine awp_r fun Y Yh => ?_; simp [go_sem, ba_size, ba_app, hcut, hcut2, hi1]; ((repeat' (first|(refine ag_x ?_;simp [go_sem, ba_size, ba_app, hcut, hcut2, hi1])|intro _|apply And.intro|(apply Yh;clear Yh Y)));all_goals first|apply Hold.mk|omega|with_reducible assumption|skip))
     refine tl4 _ ?_
     (refine cov_of ?_ ?_ <;> simp [go_sem])
  clear hK5
  (refine awp_sr fun Y Yh => ?_; simp [go_sem, b1]; ((repeat' (first|(refine ag_x ?_;simp [go_sem, b1])|intro _|apply And.intro|(apply Yh;clear Yh Y)));all_goals first|apply Hold.mk|omega|with_reducible assumption|skip))
  by_cases h8 : c = 92
  ·(refine awp_if fun T F hT hF => ?_; simp [go_sem, h8]; refine hT ?_; clear hT hF T F)
   refine awp_skip ?_
   refine tl5 _ ?_
   (refine cov_of ?_ ?_ <;> simp [go_sem, h8])
  ·(refine awp_if fun T F hT hF => ?_; simp [go_sem, h8]; refine hF ?_; clear hT hF T F)
   (refine awp_r fun Y Yh => ?_; simp [go_sem, b2]; ((repeat' (first|(refine ag_x ?_;simp [go_sem, b2])|intro _|apply And.intro|(apply Yh;clear Yh Y)));all_goals first|apply Hold.mk|omega|with_reducible assumption|skip))
   refine tl5 _ ?_
   (refine cov_of ?_ ?_ <;> simp [go_sem, h8])
 ·have : i = s.length := by omega
  subst this
  have htl := hTl s.length
  (refine awp_if fun T F hT hF => ?_; simp [go_sem, h3]; refine hF ?_; clear hT hF T F)
  refine awp_exit ?_
  simp only [go_sem]
  refine hK1 _ ?_; clear hK1
  (refine awp_sr fun Y Yh => ?_; simp [go_sem, ba_app, ba_size]; ((repeat' (first|(refine ag_x ?_;simp [go_sem, ba_app, ba_size])|intro _|apply And.intro|(apply Yh;clear Yh Y)));all_goals first|apply Hold.mk|omega|with_reducible assumption|skip))
  (refine awp_ret ?_; simp [go_sem])
theorem tw_nil {p : UInt8 → Bool} {s : Bs} (h : s.dropWhile p = []) : s.takeWhile p = s ∧ s.all p = true := by
 have e := List.takeWhile_append_dropWhile (p := p) (l := s)
 rw [h, List.append_nil] at e
 exact ⟨e, dw_nil.1 h⟩
theorem tw_cons {p : UInt8 → Bool} {s : Bs} (h : s.dropWhile p ≠ []) : s.all p = false := by
 rw [Bool.eq_false_iff]
 intro q
 exact h (dw_nil.2 q)
set_option maxHeartbeats 8000000 in
theorem rnumber_spec (a : Ag) (h : InR a.int) (hl : a.tx.length ≤ 1100000) : PCall Tryz.prog 134 [dA a] fun r => r = .tup [dI (numQ a).1, dB (numQ a).2] := by 
 refine pcall_of Tryz.func134 rfl rfl Tryz.ntmps134 (rs := [.tmp 2, .tmp 3]) (tys := [3, 4]) rfl rfl (by simp) ?_
 cases hi : a.is with
 | false =>
  have e : numQ a = (a.int, true) := by unfold numQ numA; rw [if_pos hi]
  rw [e]
  (refine awp_sr fun Y Yh => ?_; simp [go_sem, hi]; ((repeat' (first|(refine ag_x ?_;simp [go_sem, hi])|intro _|apply And.intro|(apply Yh;clear Yh Y)));all_goals first|apply Hold.mk|omega|with_reducible assumption|skip))
  refine awp_seq_k fun K1 hK1 => ?_
  (refine awp_sr fun Y Yh => ?_; simp [go_sem]; ((repeat' (first|(refine ag_x ?_;simp [go_sem])|intro _|apply And.intro|(apply Yh;clear Yh Y)));all_goals first|apply Hold.mk|omega|with_reducible assumption|skip))
  (refine awp_if fun T F hT hF => ?_; simp [go_sem]; refine hT ?_; clear hT hF T F)
  (refine awp_sr fun Y Yh => ?_; simp [go_sem]; ((repeat' (first|(refine ag_x ?_;simp [go_sem])|intro _|apply And.intro|(apply Yh;clear Yh Y)));all_goals first|apply Hold.mk|omega|with_reducible assumption|skip))
  (refine awp_ret ?_; simp [go_sem])
 | true =>
  have hT := trimPre_spec a.tx [45]
  rw [trimP_tail] at hT
  have hA := fun s hs h1 h2 h3 => atoi_spec a.tx hl _ (atoi_dec (t := a.tx) (s := s) hs h1 h2 h3)
  have hA := hA _ rfl
  have hsl : (if a.tx.head? = some 45 then a.tx.tail else a.tx).length ≤ 1100000 := by
   split
   ·rw [List.length_tail]; omega
   ·exact hl
  have e : numQ a = match (if (if a.tx.head? = some 45 then a.tx.tail else a.tx) = [] ∨ 18 < (if a.tx.head? = some 45 then a.tx.tail else a.tx).length ∨ ((if a.tx.head? = some 45 then a.tx.tail else a.tx).head? = some 48 ∧ 1 < (if a.tx.head? = some 45 then a.tx.tail else a.tx).length) ∨ (if a.tx.head? = some 45 then a.tx.tail else a.tx).all isDig = false then none else some (if a.tx.head? = some 45 then -(decN (if a.tx.head? = some 45 then a.tx.tail else a.tx) : Int) else decN (if a.tx.head? = some 45 then a.tx.tail else a.tx)) : Option Int) with
   | none => (0, false)
   | some n => (n, true) := by unfold numQ numA; rw [if_neg (by simp [hi])]; rfl
  generalize (if a.tx.head? = some 45 then a.tx.tail else a.tx) = s at *
  generalize (if a.tx.head? = some 45 then -(decN s : Int) else decN s) = v at *
  have hTk := take_dig s (by omega)
  have hcase : (s.takeWhile isDig = [] ∨ s.dropWhile isDig ≠ []) ∧ numQ a = (0, false) ∨ (s.takeWhile isDig = s ∧ s.dropWhile isDig = [] ∧ s.all isDig = true ∧ s ≠ []) := by
   by_cases h1 : s.takeWhile isDig = [] ∨ s.dropWhile isDig ≠ []
   ·left
    refine ⟨h1, ?_⟩
    rw [e, if_pos]
    by_cases hs : s = []
    ·exact .inl hs
    ·right; right; right
     rcases h1 with h1 | h1
     ·cases s with
      | nil => exact absurd rfl hs
      | cons c r =>
       rw [List.takeWhile_cons] at h1
       split at h1
       ·cases h1
       ·rename_i hc
        simp [hc]
     ·exact tw_cons h1
   ·rw [not_or, Decidable.not_not] at h1
    obtain ⟨q1, q2⟩ := tw_nil h1.2
    exact .inr ⟨q1, h1.2, q2, fun q => h1.1 (by rw [q1]; exact q)⟩
  (refine awp_sr fun Y Yh => ?_; simp [go_sem, hi]; ((repeat' (first|(refine ag_x ?_;simp [go_sem, hi])|intro _|apply And.intro|(apply Yh;clear Yh Y)));all_goals first|apply Hold.mk|omega|with_reducible assumption|skip))
  refine awp_seq_k fun K1 hK1 => ?_
  (refine awp_sr fun Y Yh => ?_; simp [go_sem]; ((repeat' (first|(refine ag_x ?_;simp [go_sem])|intro _|apply And.intro|(apply Yh;clear Yh Y)));all_goals first|apply Hold.mk|omega|with_reducible assumption|skip))
  (refine awp_if fun T F hT hF => ?_; simp [go_sem]; refine hF ?_; clear hT hF T F)
  refine awp_skip ?_
  refine hK1 _ ?_; clear hK1
  (refine awp_sr fun Y Yh => ?_; simp [go_sem]; ((repeat' (first|(refine ag_x ?_;simp [go_sem])|intro _|apply And.intro|(apply Yh;clear Yh Y)));all_goals first|apply Hold.mk|omega|with_reducible assumption|skip))
  ((try refine CallT.toA ?_); refine callT_m (.inl ⟨rfl,rfl⟩) (by simp [go_sem]) ?_; intro args ha; simp [go_sem] at ha; subst ha; refine ⟨_, hT, ?_⟩; rintro _ rfl; simp [go_sem]; ((repeat' (first|(refine ag_x ?_;simp [go_sem])|intro _|apply And.intro|(apply Yh;clear Yh Y)));all_goals first|apply Hold.mk|omega|with_reducible assumption|skip))
  (refine awp_sr fun Y Yh => ?_; simp [go_sem]; ((repeat' (first|(refine ag_x ?_;simp [go_sem])|intro _|apply And.intro|(apply Yh;clear Yh Y)));all_goals first|apply Hold.mk|omega|with_reducible assumption|skip))
  ((try refine CallT.toA ?_); refine callT_m (.inl ⟨rfl,rfl⟩) (by simp [go_sem]) ?_; intro args ha; simp [go_sem] at ha; subst ha; refine ⟨_, hTk, ?_⟩; rintro _ rfl; simp [go_sem]; ((repeat' (first|(refine ag_x ?_;simp [go_sem])|intro _|apply And.intro|(apply Yh;clear Yh Y)));all_goals first|apply Hold.mk|omega|with_reducible assumption|skip))
  refine awp_seq_k fun K3 hK3 => ?_
  rcases hcase with ⟨h1, e⟩ | ⟨h1, h2, h3, h4⟩
  ·rw [e]
   generalize s.takeWhile isDig = d at *
   generalize s.dropWhile isDig = rest at *
   cases d with
   | nil =>
    (refine awp_sr fun Y Yh => ?_; simp [go_sem]; ((repeat' (first|(refine ag_false ?_ ?_ ?_;(focus (simp [go_sem, undef];done));(focus (simp [go_sem];done));simp [go_sem])|(refine ag_true ?_ ?_;(focus (simp [go_sem, undef];done));simp [go_sem])|(refine ag_x ?_;simp [go_sem, undef])|intro _|apply And.intro|(apply Yh;clear Yh Y)));all_goals first|apply Hold.mk|omega|with_reducible assumption|skip))
    (refine awp_if fun T F hT hF => ?_; simp [go_sem]; refine hT ?_; clear hT hF T F)
    (refine awp_sr fun Y Yh => ?_; simp [go_sem]; ((repeat' (first|(refine ag_x ?_;simp [go_sem])|intro _|apply And.intro|(apply Yh;clear Yh Y)));all_goals first|apply Hold.mk|omega|with_reducible assumption|skip))
    (refine awp_ret ?_; simp [go_sem])
   | cons c0 r0 =>
    cases rest with
    | nil => exact absurd h1 (by simp)
    | cons c1 r1 =>
     (refine awp_sr fun Y Yh => ?_; simp [go_sem]; ((repeat' (first|(refine ag_false ?_ ?_ ?_;(focus (simp [go_sem, undef];done));(focus (simp [go_sem];done));simp [go_sem])|(refine ag_true ?_ ?_;(focus (simp [go_sem, undef];done));simp [go_sem])|(refine ag_x ?_;simp [go_sem, undef])|intro _|apply And.intro|(apply Yh;clear Yh Y)));all_goals first|apply Hold.mk|omega|with_reducible assumption|skip))
     (refine awp_if fun T F hT hF => ?_; simp [go_sem]; refine hT ?_; clear hT hF T F)
     (refine awp_sr fun Y Yh => ?_; simp [go_sem]; ((repeat' (first|(refine ag_x ?_;simp [go_sem])|intro _|apply And.intro|(apply Yh;clear Yh Y)));all_goals first|apply Hold.mk|omega|with_reducible assumption|skip))
     (refine awp_ret ?_; simp [go_sem])
  ·rw [h1, h2]
   cases s with
   | nil => exact absurd rfl h4
   | cons c r =>
    have h48 : decide ((c.toNat : Int) = 48) = decide (c = 48) := u8_eqb c 48 (by decide)
    have h48' : ((c.toNat : Int) = 48) = (c = 48) := propext (by have := u8_eqb c 48 (by decide); rw [decide_eq_decide] at this; exact this)
    rw [List.length_cons] at e hsl hA
    by_cases h18 : 18 < r.length + 1
    ·have h18' : (18 : Int) < (r.length : Int) + 1 := by omega
     rw [e, if_pos (.inr (.inl h18))]
     (refine awp_sr fun Y Yh => ?_; simp [go_sem, ba_size, h18']; ((repeat' (first|(refine ag_false ?_ ?_ ?_;(focus (simp [go_sem, undef, ba_size, h18'];done));(focus (simp [go_sem];done));simp [go_sem, ba_size, h18'])|(refine ag_true ?_ ?_;(focus (simp [go_sem, undef, ba_size, h18'];done));simp [go_sem, ba_size, h18'])|(refine ag_x ?_;simp [go_sem, undef, ba_size, h18'])|intro _|apply And.intro|(apply Yh;clear Yh Y)));all_goals first|apply Hold.mk|omega|with_reducible assumption|skip))
     (refine awp_if fun T F hT hF => ?_; simp [go_sem]; refine hT ?_; clear hT hF T F)
     (refine awp_sr fun Y Yh => ?_; simp [go_sem]; ((repeat' (first|(refine ag_x ?_;simp [go_sem])|intro _|apply And.intro|(apply Yh;clear Yh Y)));all_goals first|apply Hold.mk|omega|with_reducible assumption|skip))
     (refine awp_ret ?_; simp [go_sem])
    ·have h18' : ¬ (18 : Int) < (r.length : Int) + 1 := by omega
     by_cases h0 : c = 48 ∧ 1 < r.length + 1
     ·have h01 : (1 : Int) < (r.length : Int) + 1 := by omega
      rw [e, if_pos (.inr (.inr (.inl ⟨by rw [h0.1]; rfl, h0.2⟩)))]
      (refine awp_sr fun Y Yh => ?_; simp [go_sem, ba_size, h18', h01, h48', h0.1]; ((repeat' (first|(refine ag_false ?_ ?_ ?_;(focus (simp [go_sem, undef, ba_size, h18', h01, h48', h0.1];done));(focus (simp [go_sem];done));simp [go_sem, ba_size, h18', h01, h48', h0.1])|(refine ag_true ?_ ?_;(focus (simp [go_sem, undef, ba_size, h18', h01, h48', h0.1];done));simp [go_sem, ba_size, h18', h01, h48', h0.1])|(refine ag_x ?_;simp [go_sem, undef, ba_size, h18', h01, h48', h0.1])|intro _|apply And.intro|(apply Yh;clear Yh Y)));all_goals first|apply Hold.mk|omega|with_reducible assumption|skip))
      (refine awp_if fun T F hT hF => ?_; simp [go_sem]; refine hT ?_; clear hT hF T F)
      (refine awp_sr fun Y Yh => ?_; simp [go_sem]; ((repeat' (first|(refine ag_x ?_;simp [go_sem])|intro _|apply And.intro|(apply Yh;clear Yh Y)));all_goals first|apply Hold.mk|omega|with_reducible assumption|skip))
      (refine awp_ret ?_; simp [go_sem])
     ·have hAt := hA h3 (by simp) (by omega)
      have ev : numQ a = (v, true) := by
       rw [e, if_neg (by
        rintro (q | q | q | q)
        ·cases q
        ·exact h18 q
        ·rw [List.head?_cons, Option.some.injEq] at q; exact h0 q
        ·rw [h3] at q; cases q)]
      by_cases h01 : 1 < r.length + 1
      ·have h01' : (1 : Int) < (r.length : Int) + 1 := by omega
       have hc : ¬ c = 48 := fun q => h0 ⟨q, h01⟩
       (refine awp_sr fun Y Yh => ?_; simp [go_sem, ba_size, h18', h01', h48', hc]; ((repeat' (first|(refine ag_false ?_ ?_ ?_;(focus (simp [go_sem, undef, ba_size, h18', h01', h48', hc];done));(focus (simp [go_sem];done));simp [go_sem, ba_size, h18', h01', h48', hc])|(refine ag_true ?_ ?_;(focus (simp [go_sem, undef, ba_size, h18', h01', h48', hc];done));simp [go_sem, ba_size, h18', h01', h48', hc])|(refine ag_x ?_;simp [go_sem, undef, ba_size, h18', h01', h48', hc])|intro _|apply And.intro|(apply Yh;clear Yh Y)));all_goals first|apply Hold.mk|omega|with_reducible assumption|skip))
       (refine awp_if fun T F hT hF => ?_; simp [go_sem]; refine hF ?_; clear hT hF T F)
       refine awp_skip ?_
       refine hK3 _ ?_; clear hK3
       (refine awp_sr fun Y Yh => ?_; simp [go_sem]; ((repeat' (first|(refine ag_x ?_;simp [go_sem])|intro _|apply And.intro|(apply Yh;clear Yh Y)));all_goals first|apply Hold.mk|omega|with_reducible assumption|skip))
       ((try refine CallT.toA ?_); refine callT_m (.inl ⟨rfl,rfl⟩) (by simp [go_sem]) ?_; intro args ha; simp [go_sem] at ha; subst ha; refine ⟨_, hAt, ?_⟩; rintro _ rfl; simp [go_sem]; ((repeat' (first|(refine ag_x ?_;simp [go_sem])|intro _|apply And.intro|(apply Yh;clear Yh Y)));all_goals first|apply Hold.mk|omega|with_reducible assumption|skip))
       (refine awp_sr fun Y Yh => ?_; simp [go_sem]; ((repeat' (first|(refine ag_x ?_;simp [go_sem])|intro _|apply And.intro|(apply Yh;clear Yh Y)));all_goals first|apply Hold.mk|omega|with_reducible assumption|skip))
       (refine awp_ret ?_; simp [go_sem, ev])
      ·have h01' : ¬ (1 : Int) < (r.length : Int) + 1 := by omega
       (refine awp_sr fun Y Yh => ?_; simp [go_sem, ba_size, h18', h01']; ((repeat' (first|(refine ag_false ?_ ?_ ?_;(focus (simp [go_sem, undef, ba_size, h18', h01'];done));(focus (simp [go_sem];done));simp [go_sem, ba_size, h18', h01'])|(refine ag_true ?_ ?_;(focus (simp [go_sem, undef, ba_size, h18', h01'];done));simp [go_sem, ba_size, h18', h01'])|(refine ag_x ?_;simp [go_sem, undef, ba_size, h18', h01'])|intro _|apply And.intro|(apply Yh;clear Yh Y)));all_goals first|apply Hold.mk|omega|with_reducible assumption|skip))
       (refine awp_if fun T F hT hF => ?_; simp [go_sem]; refine hF ?_; clear hT hF T F)
       refine awp_skip ?_
       refine hK3 _ ?_; clear hK3
       (refine awp_sr fun Y Yh => ?_; simp [go_sem]; ((repeat' (first|(refine ag_x ?_;simp [go_sem])|intro _|apply And.intro|(apply Yh;clear Yh Y)));all_goals first|apply Hold.mk|omega|with_reducible assumption|skip))
       ((try refine CallT.toA ?_); refine callT_m (.inl ⟨rfl,rfl⟩) (by simp [go_sem]) ?_; intro args ha; simp [go_sem] at ha; subst ha; refine ⟨_, hAt, ?_⟩; rintro _ rfl; simp [go_sem]; ((repeat' (first|(refine ag_x ?_;simp [go_sem])|intro _|apply And.intro|(apply Yh;clear Yh Y)));all_goals first|apply Hold.mk|omega|with_reducible assumption|skip))
       (refine awp_sr fun Y Yh => ?_; simp [go_sem]; ((repeat' (first|(refine ag_x ?_;simp [go_sem])|intro _|apply And.intro|(apply Yh;clear Yh Y)));all_goals first|apply Hold.mk|omega|with_reducible assumption|skip))
       (refine awp_ret ?_; simp [go_sem, ev])
@[go_sem] abbrev cRf (f : Rf) : List D := [dU f.lt, dS f.nm, dS f.by', dS f.fl, dI f.wd, dI f.pr]
@[go_sem] abbrev dRf (f : Rf) : D := .agg [dU f.lt, dS f.nm, dS f.by', dS f.fl, dI f.wd, dI f.pr]
@[go_sem] abbrev dRfs (l : List Rf) : D := .sl 6 (l.map cRf)
def RFldR (s : Bs) (r : D) : Prop :=
 if pk s = 37 then r = .tup [dRf (byF [37]), dS s.tail, dB true] else
 match rfieldV s with
 | some (f, t) => r = .tup [dRf f, dS t, dB true]
 | none => ∃ f, r = .tup [dRf f, dS [], dB false]
theorem isFl_con (c : UInt8) : ([45, 48, 43, 32, 35] : Bs).contains c = isFl c := by
 unfold isFl
 rw [Bool.eq_iff_iff]
 simp only [List.contains_cons, List.contains_nil, Bool.or_false, Bool.or_eq_true, beq_iff_eq, or_assoc]
theorem take_fl (s : Bs) (hl : s.length ≤ 1000000000) : PCall Tryz.prog 106 [dS s, dS [45, 48, 43, 32, 35]] fun r => r = .tup [dS (s.takeWhile isFl), dS (s.dropWhile isFl)] := by
 have h := take_spec s [45, 48, 43, 32, 35] hl
 have e : (([45, 48, 43, 32, 35] : Bs).contains ·) = isFl := funext isFl_con
 rwa [e] at h
theorem take_nm (s : Bs) (hl : s.length ≤ 1000000000) : PCall Tryz.prog 106 [dS s, dS nmL] fun r => r = .tup [dS (s.takeWhile isNm), dS (s.dropWhile isNm)] := by
 have h := take_spec s nmL hl
 have e : (nmL.contains ·) = isNm := funext nmL_isNm
 rwa [e] at h
theorem dw_le {p : UInt8 → Bool} (s : Bs) : (s.dropWhile p).length ≤ s.length := (List.dropWhile_suffix p).length_le
theorem size_len (m : Int) (s : Bs) : (sizeV m s).2.2.length ≤ s.length := by
 have := dw_le (p := isDig) s
 unfold sizeV
 split
 ·simp
 ·split
  ·exact this
  ·exact this
def restV (nm s1 : Bs) : Option (Rf × Bs) :=
  let w := sizeV (-1) (s1.dropWhile isFl)
  if w.2.1 = false then none else
  let p := if pk w.2.2 = 46 then sizeV 0 w.2.2.tail else (-1, true, w.2.2)
  if p.2.1 = false then none else
  let c := pk p.2.2
  if c ≠ 0 ∧ c ∈ lets ∧ ((w.1 = -2 ∨ p.1 = -2) → nm = []) then some (⟨c, nm, [], s1.takeWhile isFl, w.1, p.1⟩, p.2.2.tail) else none
theorem rfield_rest (s : Bs) : rfieldV s = match rnameV s with
  | none => none
  | some (nm, s1) => restV nm s1 := rfl
theorem rfldR_none {s : Bs} (h : pk s ≠ 37) (hr : rfieldV s = none) (f : Rf) : RFldR s (.tup [dRf f, dS [], dB false]) := by
 unfold RFldR; rw [if_neg h, hr]; exact ⟨f, rfl⟩
theorem rfldR_some {s t : Bs} {f : Rf} (h : pk s ≠ 37) (hr : rfieldV s = some (f, t)) : RFldR s (.tup [dRf f, dS t, dB true]) := by
 unfold RFldR; rw [if_neg h, hr]
set_option maxHeartbeats 16000000 in
theorem rfield_spec (s : Bs) (hl : s.length ≤ 100000) : PCall Tryz.prog 66 [dS s] (RFldR s) := by 
 refine pcall_of Tryz.func66 rfl rfl Tryz.ntmps66 (rs := [.cell 2 88, .tmp 3, .tmp 4]) (tys := [88, 9, 4]) rfl rfl (by simp) ?_
 have hP := hasPre_spec s [37]
 rw [pre_pk 37 s (by decide)] at hP
 (refine awp_sr fun Y Yh => ?_; simp [go_sem]; ((repeat' (first|(refine ag_x ?_;simp [go_sem])|intro _|apply And.intro|(apply Yh;clear Yh Y)));all_goals first|apply Hold.mk|omega|with_reducible assumption|skip))
 (refine awp_sr fun Y Yh => ?_; simp [go_sem]; ((repeat' (first|(refine ag_x ?_;simp [go_sem])|intro _|apply And.intro|(apply Yh;clear Yh Y)));all_goals first|apply Hold.mk|omega|with_reducible assumption|skip))
 refine awp_seq_k fun K1 hK1 => ?_
 (refine awp_sr fun Y Yh => ?_; simp [go_sem]; ((repeat' (first|(refine ag_x ?_;simp [go_sem])|intro _|apply And.intro|(apply Yh;clear Yh Y)));all_goals first|apply Hold.mk|omega|with_reducible assumption|skip))
 ((try refine CallT.toA ?_); refine callT_m (.inl ⟨rfl,rfl⟩) (by simp [go_sem]) ?_; intro args ha; simp [go_sem] at ha; subst ha; refine ⟨_, hP, ?_⟩; rintro _ rfl; simp [go_sem]; ((repeat' (first|(refine ag_x ?_;simp [go_sem])|intro _|apply And.intro|(apply Yh;clear Yh Y)));all_goals first|apply Hold.mk|omega|with_reducible assumption|skip))
 by_cases h37 : pk s = 37
 ·have hpos : 1 ≤ s.length := by
   cases s with
   | nil => exact absurd h37 (by decide)
   | cons _ _ => simp
  have hcut : ({ data := s.toArray } : ByteArray).extract 1 s.length = { data := s.tail.toArray } := by rw [ba_cut, List.take_of_length_le (Nat.le_refl _), List.drop_one]
  (refine awp_if fun T F hT hF => ?_; simp [go_sem, h37]; refine hT ?_; clear hT hF T F)
  (refine awp_sr fun Y Yh => ?_; simp [go_sem]; ((repeat' (first|(refine ag_x ?_;simp [go_sem])|intro _|apply And.intro|(apply Yh;clear Yh Y)));all_goals first|apply Hold.mk|omega|with_reducible assumption|skip))
  ((refine awp_dr (.qs [1, 2, 0] (.one 3 (.qs [4, 5] (.nil)))) (by kernel_rfl) ?_ ?_ ?_ ?_); (kernel_rfl); (exact (by decide +kernel)); (kernel_rfl); intro Y Yh; ((repeat' (first|(refine ag_x ?_;simp [go_sem, ba_size, hpos, hcut])|refine adr_nil ?_|((first|refine adr_qs fun Y Yh=>?_|refine adr_y fun Y Yh=>?_);simp [go_sem, ba_size, hpos, hcut])|intro _|apply And.intro|(apply Yh;clear Yh Y)));all_goals first|apply Hold.mk|omega|with_reducible assumption|skip))
  (refine awp_ret ?_; simp [go_sem])
  unfold RFldR
  rw [if_pos h37]
  rfl
 ·(refine awp_if fun T F hT hF => ?_; simp [go_sem, h37]; refine hF ?_; clear hT hF T F)
  refine awp_skip ?_
  refine hK1 _ ?_; clear hK1
  refine awp_seq_k fun K3 hK3 => ?_
  rename_i g2 g5
  have tl3 : ∀ nm s1 S', s1.length ≤ 100000 → rfieldV s = restV nm s1 → Cov S' ⟨[(0, dS s1), (2, .ptr 2 g2 0), (5, .ptr 5 g5 0)], [(5, (g5, .box [dU 0, dS nm, dS [], dS [], dI (-1), dI (-1)])), (2, (g2, .box [dU 0, dS [], dS [], dS [], dI 0, dI 0]))]⟩ → K3 S' := fun nm s1 S' hl1 hr hS => by
   refine hK3 _ ?_; clear hK3
   refine awp_cov hS ?_; clear hS
   have hT := take_fl s1 (by omega)
   have hdl := dw_le (p := isFl) s1
   unfold restV at hr
   have hW := size_spec (s1.dropWhile isFl) (-1) (by omega)
   have hwl := size_len (-1) (s1.dropWhile isFl)
   generalize sizeV (-1) (s1.dropWhile isFl) = w at *
   generalize s1.dropWhile isFl = s2 at *
   generalize s1.takeWhile isFl = fl at *
   obtain ⟨w1, w2, s3⟩ := w
   simp only at hr hW hwl
   (refine awp_sr fun Y Yh => ?_; simp [go_sem]; ((repeat' (first|(refine ag_x ?_;simp [go_sem])|intro _|apply And.intro|(apply Yh;clear Yh Y)));all_goals first|apply Hold.mk|omega|with_reducible assumption|skip))
   ((try refine CallT.toA ?_); refine callT_m (.inl ⟨rfl,rfl⟩) (by simp [go_sem]) ?_; intro args ha; simp [go_sem] at ha; subst ha; refine ⟨_, hT, ?_⟩; rintro _ rfl; simp [go_sem]; ((repeat' (first|(refine ag_x ?_;simp [go_sem])|intro _|apply And.intro|(apply Yh;clear Yh Y)));all_goals first|apply Hold.mk|omega|with_reducible assumption|skip))
   (refine awp_sr fun Y Yh => ?_; simp [go_sem]; ((repeat' (first|(refine ag_x ?_;simp [go_sem])|intro _|apply And.intro|(apply Yh;clear Yh Y)));all_goals first|apply Hold.mk|omega|with_reducible assumption|skip))
   (refine awp_sr fun Y Yh => ?_; simp [go_sem]; ((repeat' (first|(refine ag_x ?_;simp [go_sem])|intro _|apply And.intro|(apply Yh;clear Yh Y)));all_goals first|apply Hold.mk|omega|with_reducible assumption|skip))
   ((try refine CallT.toA ?_); refine callT_m (.inl ⟨rfl,rfl⟩) (by simp [go_sem]) ?_; intro args ha; simp [go_sem] at ha; subst ha; refine ⟨_, hW, ?_⟩; rintro _ rfl; simp [go_sem]; ((repeat' (first|(refine ag_x ?_;simp [go_sem])|intro _|apply And.intro|(apply Yh;clear Yh Y)));all_goals first|apply Hold.mk|omega|with_reducible assumption|skip))
   refine awp_seq_k fun K4 hK4 => ?_
   (refine awp_sr fun Y Yh => ?_; simp [go_sem]; ((repeat' (first|(refine ag_x ?_;simp [go_sem])|intro _|apply And.intro|(apply Yh;clear Yh Y)));all_goals first|apply Hold.mk|omega|with_reducible assumption|skip))
   cases w2 with
   | false =>
    rw [if_pos rfl] at hr
    (refine awp_if fun T F hT hF => ?_; simp [go_sem]; refine hT ?_; clear hT hF T F)
    (refine awp_sr fun Y Yh => ?_; simp [go_sem]; ((repeat' (first|(refine ag_x ?_;simp [go_sem])|intro _|apply And.intro|(apply Yh;clear Yh Y)));all_goals first|apply Hold.mk|omega|with_reducible assumption|skip))
    (refine awp_ret ?_; simp [go_sem])
    exact rfldR_none h37 hr ⟨0, nm, [], fl, w1, -1⟩
   | true =>
    rw [if_neg (by simp)] at hr
    (refine awp_if fun T F hT hF => ?_; simp [go_sem]; refine hF ?_; clear hT hF T F)
    refine awp_skip ?_
    refine hK4 _ ?_; clear hK4
    refine awp_seq_k fun K6 hK6 => ?_
    have tl6 : ∀ p1 s4 S', s4.length ≤ 100000 → rfieldV s = (if pk s4 ≠ 0 ∧ pk s4 ∈ lets ∧ ((w1 = -2 ∨ p1 = -2) → nm = []) then some (⟨pk s4, nm, [], fl, w1, p1⟩, s4.tail) else none) → Cov S' ⟨[(0, dS s4), (2, .ptr 2 g2 0), (5, .ptr 5 g5 0)], [(5, (g5, .box [dU 0, dS nm, dS [], dS fl, dI w1, dI p1])), (2, (g2, .box [dU 0, dS [], dS [], dS [], dI 0, dI 0]))]⟩ → K6 S' := fun p1 s4 S' hl4 hr hS => by
     refine hK6 _ ?_; clear hK6
     refine awp_cov hS ?_; clear hS
     refine awp_seq_k fun K7 hK7 => ?_
     cases s4 with
     | nil =>
      rw [if_neg (by simp [pk])] at hr
      (refine awp_sr fun Y Yh => ?_; simp [go_sem]; ((repeat' (first|(refine ag_false ?_ ?_ ?_;(focus (simp [go_sem, undef];done));(focus (simp [go_sem];done));simp [go_sem])|(refine ag_true ?_ ?_;(focus (simp [go_sem, undef];done));simp [go_sem])|(refine ag_x ?_;simp [go_sem, undef])|intro _|apply And.intro|(apply Yh;clear Yh Y)));all_goals first|apply Hold.mk|omega|with_reducible assumption|skip))
      (refine awp_if fun T F hT hF => ?_; simp [go_sem]; refine hT ?_; clear hT hF T F)
      (refine awp_sr fun Y Yh => ?_; simp [go_sem]; ((repeat' (first|(refine ag_x ?_;simp [go_sem])|intro _|apply And.intro|(apply Yh;clear Yh Y)));all_goals first|apply Hold.mk|omega|with_reducible assumption|skip))
      (refine awp_ret ?_; simp [go_sem])
      exact rfldR_none h37 hr ⟨0, nm, [], fl, w1, p1⟩
     | cons c r =>
      have epk : pk (c :: r) = c := rfl
      rw [epk, List.tail_cons] at hr
      have hI := idxB_spec lets c
      have hh := idx_has lets c
      generalize idxV lets c = v at *
      have hlen1 : (0 : Int) < (r.length : Int) + 1 := by omega
      by_cases hc : c ∈ lets
      ·have hv : ¬ v < 0 := by
        have := hh.2 (by simpa using hc)
        omega
       have hc0 : c ≠ 0 := by
        intro q
        subst q
        exact absurd hc (by decide)
       have fin : ((w1 = -2 ∨ p1 = -2) → nm = []) → ∀ S', Cov S' ⟨[(0, dS (c :: r)), (2, .ptr 2 g2 0), (5, .ptr 5 g5 0)], [(5, (g5, .box [dU 0, dS nm, dS [], dS fl, dI w1, dI p1])), (2, (g2, .box [dU 0, dS [], dS [], dS [], dI 0, dI 0]))]⟩ → K7 S' := fun hcond S' hS => by
        refine hK7 _ ?_; clear hK7
        refine awp_cov hS ?_; clear hS
        rw [if_pos ⟨hc0, hc, hcond⟩] at hr
        have hcut : ({ data := (c :: r).toArray } : ByteArray).extract 1 (r.length + 1) = { data := r.toArray } := by rw [ba_cut]; simp
        (refine awp_sr fun Y Yh => ?_; simp [go_sem, ba_size]; ((repeat' (first|(refine ag_x ?_;simp [go_sem, ba_size])|intro _|apply And.intro|(apply Yh;clear Yh Y)));all_goals first|apply Hold.mk|omega|with_reducible assumption|skip))
        ((refine awp_dr (.qs [1, 2, 0] (.one 3 (.qs [4, 5] (.nil)))) (by kernel_rfl) ?_ ?_ ?_ ?_); (kernel_rfl); (exact (by decide +kernel)); (kernel_rfl); intro Y Yh; ((repeat' (first|(refine ag_x ?_;simp [go_sem, ba_size, hcut])|refine adr_nil ?_|((first|refine adr_qs fun Y Yh=>?_|refine adr_y fun Y Yh=>?_);simp [go_sem, ba_size, hcut])|intro _|apply And.intro|(apply Yh;clear Yh Y)));all_goals first|apply Hold.mk|omega|with_reducible assumption|skip))
        (refine awp_ret ?_; simp [go_sem])
        exact rfldR_some h37 hr
       cases nm with
       | nil =>
        (refine awp_sr fun Y Yh => ?_; simp [go_sem, ba_size]; ((repeat' (first|(refine ag_false ?_ ?_ ?_;(focus (simp [go_sem, undef, ba_size];done));(focus (simp [go_sem];done));simp [go_sem, ba_size])|(refine ag_true ?_ ?_;(focus (simp [go_sem, undef, ba_size];done));simp [go_sem, ba_size])|(refine ag_x ?_;simp [go_sem, undef, ba_size])|intro _|apply And.intro|(apply Yh;clear Yh Y)));all_goals first|apply Hold.mk|omega|with_reducible assumption|skip))
        ((try refine CallT.toA ?_); refine callT_m (.inl ⟨rfl,rfl⟩) (by simp [go_sem]) ?_; intro args ha; simp [go_sem] at ha; subst ha; refine ⟨_, hI, ?_⟩; rintro _ rfl; simp [go_sem]; ((repeat' (first|(refine ag_false ?_ ?_ ?_;(focus (simp [go_sem, undef];done));(focus (simp [go_sem];done));simp [go_sem])|(refine ag_true ?_ ?_;(focus (simp [go_sem, undef];done));simp [go_sem])|(refine ag_x ?_;simp [go_sem, undef])|intro _|apply And.intro|(apply Yh;clear Yh Y)));all_goals first|apply Hold.mk|omega|with_reducible assumption|skip))
        (refine awp_if fun T F hT hF => ?_; simp [go_sem, hv]; refine hF ?_; clear hT hF T F)
        refine awp_skip ?_
        refine fin (fun _ => rfl) _ ?_
        (refine cov_of ?_ ?_ <;> simp [go_sem])
       | cons n0 nr =>
        by_cases hw : w1 = -2
        ·subst hw
         rw [if_neg (by simp)] at hr
         (refine awp_sr fun Y Yh => ?_; simp [go_sem, ba_size]; ((repeat' (first|(refine ag_false ?_ ?_ ?_;(focus (simp [go_sem, undef, ba_size];done));(focus (simp [go_sem];done));simp [go_sem, ba_size])|(refine ag_true ?_ ?_;(focus (simp [go_sem, undef, ba_size];done));simp [go_sem, ba_size])|(refine ag_x ?_;simp [go_sem, undef, ba_size])|intro _|apply And.intro|(apply Yh;clear Yh Y)));all_goals first|apply Hold.mk|omega|with_reducible assumption|skip))
         ((try refine CallT.toA ?_); refine callT_m (.inl ⟨rfl,rfl⟩) (by simp [go_sem]) ?_; intro args ha; simp [go_sem] at ha; subst ha; refine ⟨_, hI, ?_⟩; rintro _ rfl; simp [go_sem, hv]; ((repeat' (first|(refine ag_false ?_ ?_ ?_;(focus (simp [go_sem, undef, hv];done));(focus (simp [go_sem];done));simp [go_sem, hv])|(refine ag_true ?_ ?_;(focus (simp [go_sem, undef, hv];done));simp [go_sem, hv])|(refine ag_x ?_;simp [go_sem, undef, hv])|intro _|apply And.intro|(apply Yh;clear Yh Y)));all_goals first|apply Hold.mk|omega|with_reducible assumption|skip))
         (refine awp_if fun T F hT hF => ?_; simp [go_sem, hv]; refine hT ?_; clear hT hF T F)
         (refine awp_sr fun Y Yh => ?_; simp [go_sem]; ((repeat' (first|(refine ag_x ?_;simp [go_sem])|intro _|apply And.intro|(apply Yh;clear Yh Y)));all_goals first|apply Hold.mk|omega|with_reducible assumption|skip))
         (refine awp_ret ?_; simp [go_sem])
         exact rfldR_none h37 hr ⟨0, n0 :: nr, [], fl, -2, p1⟩
        ·by_cases hp : p1 = -2
         ·subst hp
          rw [if_neg (by simp)] at hr
          (refine awp_sr fun Y Yh => ?_; simp [go_sem, ba_size, hw]; ((repeat' (first|(refine ag_false ?_ ?_ ?_;(focus (simp [go_sem, undef, ba_size, hw];done));(focus (simp [go_sem];done));simp [go_sem, ba_size, hw])|(refine ag_true ?_ ?_;(focus (simp [go_sem, undef, ba_size, hw];done));simp [go_sem, ba_size, hw])|(refine ag_x ?_;simp [go_sem, undef, ba_size, hw])|intro _|apply And.intro|(apply Yh;clear Yh Y)));all_goals first|apply Hold.mk|omega|with_reducible assumption|skip))
          ((try refine CallT.toA ?_); refine callT_m (.inl ⟨rfl,rfl⟩) (by simp [go_sem]) ?_; intro args ha; simp [go_sem] at ha; subst ha; refine ⟨_, hI, ?_⟩; rintro _ rfl; simp [go_sem, hv, hw]; ((repeat' (first|(refine ag_false ?_ ?_ ?_;(focus (simp [go_sem, undef, hv, hw];done));(focus (simp [go_sem];done));simp [go_sem, hv, hw])|(refine ag_true ?_ ?_;(focus (simp [go_sem, undef, hv, hw];done));simp [go_sem, hv, hw])|(refine ag_x ?_;simp [go_sem, undef, hv, hw])|intro _|apply And.intro|(apply Yh;clear Yh Y)));all_goals first|apply Hold.mk|omega|with_reducible assumption|skip))
          (refine awp_if fun T F hT hF => ?_; simp [go_sem, hv, hw]; refine hT ?_; clear hT hF T F)
          (refine awp_sr fun Y Yh => ?_; simp [go_sem]; ((repeat' (first|(refine ag_x ?_;simp [go_sem])|intro _|apply And.intro|(apply Yh;clear Yh Y)));all_goals first|apply Hold.mk|omega|with_reducible assumption|skip))
          (refine awp_ret ?_; simp [go_sem])
          exact rfldR_none h37 hr ⟨0, n0 :: nr, [], fl, w1, -2⟩
         ·(refine awp_sr fun Y Yh => ?_; simp [go_sem, ba_size, hw, hp]; ((repeat' (first|(refine ag_false ?_ ?_ ?_;(focus (simp [go_sem, undef, ba_size, hw, hp];done));(focus (simp [go_sem];done));simp [go_sem, ba_size, hw, hp])|(refine ag_true ?_ ?_;(focus (simp [go_sem, undef, ba_size, hw, hp];done));simp [go_sem, ba_size, hw, hp])|(refine ag_x ?_;simp [go_sem, undef, ba_size, hw, hp])|intro _|apply And.intro|(apply Yh;clear Yh Y)));all_goals first|apply Hold.mk|omega|with_reducible assumption|skip))
          ((try refine CallT.toA ?_); refine callT_m (.inl ⟨rfl,rfl⟩) (by simp [go_sem]) ?_; intro args ha; simp [go_sem] at ha; subst ha; refine ⟨_, hI, ?_⟩; rintro _ rfl; simp [go_sem, hv, hw, hp]; ((repeat' (first|(refine ag_false ?_ ?_ ?_;(focus (simp [go_sem, undef, hv, hw, hp];done));(focus (simp [go_sem];done));simp [go_sem, hv, hw, hp])|(refine ag_true ?_ ?_;(focus (simp [go_sem, undef, hv, hw, hp];done));simp [go_sem, hv, hw, hp])|(refine ag_x ?_;simp [go_sem, undef, hv, hw, hp])|intro _|apply And.intro|(apply Yh;clear Yh Y)));all_goals first|apply Hold.mk|omega|with_reducible assumption|skip))
          (refine awp_if fun T F hT hF => ?_; simp [go_sem, hv, hw, hp]; refine hF ?_; clear hT hF T F)
          refine awp_skip ?_
          refine fin (fun q => absurd q (by simp [hw, hp])) _ ?_
          (refine cov_of ?_ ?_ <;> simp [go_sem])
      ·have hv : v < 0 := by
        rcases Int.lt_or_le v 0 with q | q
        ·exact q
        ·exact absurd (by simpa using hh.1 q) hc
       rw [if_neg (fun q => hc q.2.1)] at hr
       (refine awp_sr fun Y Yh => ?_; simp [go_sem, ba_size]; ((repeat' (first|(refine ag_false ?_ ?_ ?_;(focus (simp [go_sem, undef, ba_size];done));(focus (simp [go_sem];done));simp [go_sem, ba_size])|(refine ag_true ?_ ?_;(focus (simp [go_sem, undef, ba_size];done));simp [go_sem, ba_size])|(refine ag_x ?_;simp [go_sem, undef, ba_size])|intro _|apply And.intro|(apply Yh;clear Yh Y)));all_goals first|apply Hold.mk|omega|with_reducible assumption|skip))
       ((try refine CallT.toA ?_); refine callT_m (.inl ⟨rfl,rfl⟩) (by simp [go_sem]) ?_; intro args ha; simp [go_sem] at ha; subst ha; refine ⟨_, hI, ?_⟩; rintro _ rfl; simp [go_sem, hv]; ((repeat' (first|(refine ag_false ?_ ?_ ?_;(focus (simp [go_sem, undef, hv];done));(focus (simp [go_sem];done));simp [go_sem, hv])|(refine ag_true ?_ ?_;(focus (simp [go_sem, undef, hv];done));simp [go_sem, hv])|(refine ag_x ?_;simp [go_sem, undef, hv])|intro _|apply And.intro|(apply Yh;clear Yh Y)));all_goals first|apply Hold.mk|omega|with_reducible assumption|skip))
       (refine awp_if fun T F hT hF => ?_; simp [go_sem, hv]; refine hT ?_; clear hT hF T F)
       (refine awp_sr fun Y Yh => ?_; simp [go_sem]; ((repeat' (first|(refine ag_x ?_;simp [go_sem])|intro _|apply And.intro|(apply Yh;clear Yh Y)));all_goals first|apply Hold.mk|omega|with_reducible assumption|skip))
       (refine awp_ret ?_; simp [go_sem])
       exact rfldR_none h37 hr ⟨0, nm, [], fl, w1, p1⟩
    clear hK6
    have hP46 := hasPre_spec s3 [46]
    rw [pre_pk 46 s3 (by decide)] at hP46
    (refine awp_sr fun Y Yh => ?_; simp [go_sem]; ((repeat' (first|(refine ag_x ?_;simp [go_sem])|intro _|apply And.intro|(apply Yh;clear Yh Y)));all_goals first|apply Hold.mk|omega|with_reducible assumption|skip))
    ((try refine CallT.toA ?_); refine callT_m (.inl ⟨rfl,rfl⟩) (by simp [go_sem]) ?_; intro args ha; simp [go_sem] at ha; subst ha; refine ⟨_, hP46, ?_⟩; rintro _ rfl; simp [go_sem]; ((repeat' (first|(refine ag_x ?_;simp [go_sem])|intro _|apply And.intro|(apply Yh;clear Yh Y)));all_goals first|apply Hold.mk|omega|with_reducible assumption|skip))
    by_cases h46 : pk s3 = 46
    ·rw [if_pos h46] at hr
     have hpos : 1 ≤ s3.length := by
      cases s3 with
      | nil => exact absurd h46 (by decide)
      | cons _ _ => simp
     have hcut : ({ data := s3.toArray } : ByteArray).extract 1 s3.length = { data := s3.tail.toArray } := by rw [ba_cut, List.take_of_length_le (Nat.le_refl _), List.drop_one]
     have hZ := size_spec s3.tail 0 (by rw [List.length_tail]; omega)
     have hzl := size_len 0 s3.tail
     rw [List.length_tail] at hzl
     generalize sizeV 0 s3.tail = z at *
     obtain ⟨z1, z2, s4⟩ := z
     simp only at hr hZ hzl
     (refine awp_if fun T F hT hF => ?_; simp [go_sem, h46]; refine hT ?_; clear hT hF T F)
     (refine awp_sr fun Y Yh => ?_; simp [go_sem, ba_size, hpos, hcut]; ((repeat' (first|(refine ag_x ?_;simp [go_sem, ba_size, hpos, hcut])|intro _|apply And.intro|(apply Yh;clear Yh Y)));all_goals first|apply Hold.mk|omega|with_reducible assumption|skip))
     ((try refine CallT.toA ?_); refine callT_m (.inl ⟨rfl,rfl⟩) (by simp [go_sem]) ?_; intro args ha; simp [go_sem] at ha; subst ha; refine ⟨_, hZ, ?_⟩; rintro _ rfl; simp [go_sem]; ((repeat' (first|(refine ag_x ?_;simp [go_sem])|intro _|apply And.intro|(apply Yh;clear Yh Y)));all_goals first|apply Hold.mk|omega|with_reducible assumption|skip))
     (refine awp_sr fun Y Yh => ?_; simp [go_sem]; ((repeat' (first|(refine ag_x ?_;simp [go_sem])|intro _|apply And.intro|(apply Yh;clear Yh Y)));all_goals first|apply Hold.mk|omega|with_reducible assumption|skip))
     cases z2 with
     | false =>
      rw [if_pos rfl] at hr
      (refine awp_if fun T F hT hF => ?_; simp [go_sem]; refine hT ?_; clear hT hF T F)
      (refine awp_sr fun Y Yh => ?_; simp [go_sem]; ((repeat' (first|(refine ag_x ?_;simp [go_sem])|intro _|apply And.intro|(apply Yh;clear Yh Y)));all_goals first|apply Hold.mk|omega|with_reducible assumption|skip))
      (refine awp_ret ?_; simp [go_sem])
      exact rfldR_none h37 hr ⟨0, nm, [], fl, w1, z1⟩
     | true =>
      rw [if_neg (by simp)] at hr
      (refine awp_if fun T F hT hF => ?_; simp [go_sem]; refine hF ?_; clear hT hF T F)
      refine awp_skip ?_
      refine tl6 z1 s4 _ (by omega) hr ?_
      (refine cov_of ?_ ?_ <;> simp [go_sem])
    ·rw [if_neg h46] at hr
     simp only [Bool.true_eq_false, if_false] at hr
     (refine awp_if fun T F hT hF => ?_; simp [go_sem, h46]; refine hF ?_; clear hT hF T F)
     refine awp_skip ?_
     refine tl6 (-1) s3 _ (by omega) hr ?_
     (refine cov_of ?_ ?_ <;> simp [go_sem])
  clear hK3
  have hP60 := hasPre_spec s [60]
  rw [pre_pk 60 s (by decide)] at hP60
  have hN := rfield_rest s
  unfold rnameV at hN
  (refine awp_sr fun Y Yh => ?_; simp [go_sem]; ((repeat' (first|(refine ag_x ?_;simp [go_sem])|intro _|apply And.intro|(apply Yh;clear Yh Y)));all_goals first|apply Hold.mk|omega|with_reducible assumption|skip))
  ((try refine CallT.toA ?_); refine callT_m (.inl ⟨rfl,rfl⟩) (by simp [go_sem]) ?_; intro args ha; simp [go_sem] at ha; subst ha; refine ⟨_, hP60, ?_⟩; rintro _ rfl; simp [go_sem]; ((repeat' (first|(refine ag_x ?_;simp [go_sem])|intro _|apply And.intro|(apply Yh;clear Yh Y)));all_goals first|apply Hold.mk|omega|with_reducible assumption|skip))
  by_cases h60 : pk s = 60
  ·rw [if_neg (by simp [h60])] at hN
   have hpos : 1 ≤ s.length := by
    cases s with
    | nil => exact absurd h60 (by decide)
    | cons _ _ => simp
   have hcut : ({ data := s.toArray } : ByteArray).extract 1 s.length = { data := s.tail.toArray } := by rw [ba_cut, List.take_of_length_le (Nat.le_refl _), List.drop_one]
   have hT := take_nm s.tail (by rw [List.length_tail]; omega)
   have hdl := dw_le (p := isNm) s.tail
   rw [List.length_tail] at hdl
   generalize s.tail.takeWhile isNm = nm at *
   generalize s.tail.dropWhile isNm = rs at *
   have hP62 := hasPre_spec rs [62]
   rw [pre_pk 62 rs (by decide)] at hP62
   (refine awp_if fun T F hT hF => ?_; simp [go_sem, h60]; refine hT ?_; clear hT hF T F)
   (refine awp_sr fun Y Yh => ?_; simp [go_sem, ba_size, hpos, hcut]; ((repeat' (first|(refine ag_x ?_;simp [go_sem, ba_size, hpos, hcut])|intro _|apply And.intro|(apply Yh;clear Yh Y)));all_goals first|apply Hold.mk|omega|with_reducible assumption|skip))
   ((try refine CallT.toA ?_); refine callT_m (.inl ⟨rfl,rfl⟩) (by simp [go_sem]) ?_; intro args ha; simp [go_sem] at ha; subst ha; refine ⟨_, hT, ?_⟩; rintro _ rfl; simp [go_sem]; ((repeat' (first|(refine ag_x ?_;simp [go_sem])|intro _|apply And.intro|(apply Yh;clear Yh Y)));all_goals first|apply Hold.mk|omega|with_reducible assumption|skip))
   refine awp_seq_k fun K12 hK12 => ?_
   cases nm with
   | nil =>
    rw [if_pos (.inl rfl)] at hN
    (refine awp_sr fun Y Yh => ?_; simp [go_sem]; ((repeat' (first|(refine ag_false ?_ ?_ ?_;(focus (simp [go_sem, undef];done));(focus (simp [go_sem];done));simp [go_sem])|(refine ag_true ?_ ?_;(focus (simp [go_sem, undef];done));simp [go_sem])|(refine ag_x ?_;simp [go_sem, undef])|intro _|apply And.intro|(apply Yh;clear Yh Y)));all_goals first|apply Hold.mk|omega|with_reducible assumption|skip))
    (refine awp_if fun T F hT hF => ?_; simp [go_sem]; refine hT ?_; clear hT hF T F)
    (refine awp_sr fun Y Yh => ?_; simp [go_sem]; ((repeat' (first|(refine ag_x ?_;simp [go_sem])|intro _|apply And.intro|(apply Yh;clear Yh Y)));all_goals first|apply Hold.mk|omega|with_reducible assumption|skip))
    (refine awp_ret ?_; simp [go_sem])
    exact rfldR_none h37 hN ⟨0, [], [], [], -1, -1⟩
   | cons c0 r0 =>
    (refine awp_sr fun Y Yh => ?_; simp [go_sem]; ((repeat' (first|(refine ag_false ?_ ?_ ?_;(focus (simp [go_sem, undef];done));(focus (simp [go_sem];done));simp [go_sem])|(refine ag_true ?_ ?_;(focus (simp [go_sem, undef];done));simp [go_sem])|(refine ag_x ?_;simp [go_sem, undef])|intro _|apply And.intro|(apply Yh;clear Yh Y)));all_goals first|apply Hold.mk|omega|with_reducible assumption|skip))
    ((try refine CallT.toA ?_); refine callT_m (.inl ⟨rfl,rfl⟩) (by simp [go_sem]) ?_; intro args ha; simp [go_sem] at ha; subst ha; refine ⟨_, hP62, ?_⟩; rintro _ rfl; simp [go_sem]; ((repeat' (first|(refine ag_false ?_ ?_ ?_;(focus (simp [go_sem, undef];done));(focus (simp [go_sem];done));simp [go_sem])|(refine ag_true ?_ ?_;(focus (simp [go_sem, undef];done));simp [go_sem])|(refine ag_x ?_;simp [go_sem, undef])|intro _|apply And.intro|(apply Yh;clear Yh Y)));all_goals first|apply Hold.mk|omega|with_reducible assumption|skip))
    by_cases h62 : pk rs = 62
    ·rw [if_neg (by simp [h62])] at hN
     simp only at hN
     have hpos2 : 1 ≤ rs.length := by
      cases rs with
      | nil => exact absurd h62 (by decide)
      | cons _ _ => simp
     have hcut2 : ({ data := rs.toArray } : ByteArray).extract 1 rs.length = { data := rs.tail.toArray } := by rw [ba_cut, List.take_of_length_le (Nat.le_refl _), List.drop_one]
     (refine awp_if fun T F hT hF => ?_; simp [go_sem, h62]; refine hF ?_; clear hT hF T F)
     refine awp_skip ?_
     refine hK12 _ ?_; clear hK12
     (refine awp_sr fun Y Yh => ?_; simp [go_sem]; ((repeat' (first|(refine ag_x ?_;simp [go_sem])|intro _|apply And.intro|(apply Yh;clear Yh Y)));all_goals first|apply Hold.mk|omega|with_reducible assumption|skip))
     (refine awp_r fun Y Yh => ?_; simp [go_sem, ba_size, hpos2, hcut2]; ((repeat' (first|(refine ag_x ?_;simp [go_sem, ba_size, hpos2, hcut2])|intro _|apply And.intro|(apply Yh;clear Yh Y)));all_goals first|apply Hold.mk|omega|with_reducible assumption|skip))
     refine tl3 (c0 :: r0) rs.tail _ (by rw [List.length_tail]; omega) hN ?_
     (refine cov_of ?_ ?_ <;> simp [go_sem])
    ·rw [if_pos (.inr h62)] at hN
     (refine awp_if fun T F hT hF => ?_; simp [go_sem, h62]; refine hT ?_; clear hT hF T F)
     (refine awp_sr fun Y Yh => ?_; simp [go_sem]; ((repeat' (first|(refine ag_x ?_;simp [go_sem])|intro _|apply And.intro|(apply Yh;clear Yh Y)));all_goals first|apply Hold.mk|omega|with_reducible assumption|skip))
     (refine awp_ret ?_; simp [go_sem])
     exact rfldR_none h37 hN ⟨0, [], [], [], -1, -1⟩
  ·rw [if_pos h60] at hN
   simp only at hN
   (refine awp_if fun T F hT hF => ?_; simp [go_sem, h60]; refine hF ?_; clear hT hF T F)
   refine awp_skip ?_
   refine tl3 [] s _ hl hN ?_
   (refine cov_of ?_ ?_ <;> simp [go_sem])
end Go.Proofs.YtelhdhofnohkcaaGreatDoor
namespace Go.Proofs.YtelhdhofnohkcaaGreatDoor
open Go.Shelf Go.RowKit Go.Sort Go.Lib
set_option maxHeartbeats 6400000 in
set_option maxRecDepth 100000 in
theorem fmtU10_w (u : Nat) (hu64 : u < 18446744073709551616) (w : World) (htab : Lib.TabIs Tryz.prog w "internal/strconv.uint64pow10" .u64 Lib.pow10Tab) :
  Calls Tryz.prog 189 #[.int .u64 u, .int .i64 10] w fun e w' => e = .returned (.string ⟨(Lib.decDigits u).toArray⟩) ∧ ∃ k os, w' = grow (w.drewN k) os := by
 have e83 : ∀ args w, (callFunc 83 args).run Tryz.prog w = .ok (.enter 83 args) w := enters_of Tryz.func83 (by kernel_rfl) rfl
 have e84 : ∀ args w, (callFunc 84 args).run Tryz.prog w = .ok (.enter 84 args) w := enters_of Tryz.func84 (by kernel_rfl) rfl
 have e85 : ∀ args w, (callFunc 85 args).run Tryz.prog w = .ok (.enter 85 args) w := enters_of Tryz.func85 (by kernel_rfl) rfl
 by_cases hs : u < 100
 ·go_enter Tryz.func189, Tryz.ntmps189
  go_wp2_with (go_at_fn 83; refine (Tryz.internal_strconv_small u hs _).mono ?_; rintro e w' ⟨rfl, rfl⟩)
  go_ret
  refine ⟨rfl, 0, #[], by simp [World.drewN_zero]⟩
 ·have hu1 : 1 ≤ u := by omega
  have hnd20 : Lib.nDigits u ≤ 20 := by have := Lib.numDigits_eq u hu1 hu64; split at this <;> omega
  have hal : Tryz.prog.arrayLen 142 = 24 := by simp [Program.arrayLen, Tryz.underlying142]
  have hsl1 : ∀ W, (Instr.sliceAt 142 (.pointer (some ⟨w.heap.size, 0, none⟩)) none (some (.int .i64 (Lib.nDigits u : Int))) none).run Tryz.prog W = .ok (.slice (some ⟨w.heap.size, 0, none⟩) (Lib.nDigits u) 24) W := fun W => by
   rw [run_sliceAt_array_h W 142 ⟨w.heap.size, 0, none⟩ (by simp [Program.arrayLen, Program.elem, Tryz.underlying142]) .i64 (Lib.nDigits u : Int) (by omega) (by rw [hal]; omega)]
   go_simp
  have hH0 := Lib.holds_zero0 w 142 (Lib.nDigits u) (by omega)
  have hfmt := Tryz.internal_strconv_formatBase10 w.heap.size 0 24 u (Array.replicate (Lib.nDigits u) 0) (w.alloc (.cells Lib.zeros24 142)) hH0 (by rw [Array.size_replicate]; exact Lib.lt_pow_nDigits u) hu64 (by rw [Array.size_replicate]; omega)
  rw [Array.size_replicate] at hfmt
  have HH0 := Lib.hid hH0
  clear hH0 hal
  go_enter Tryz.func189, Tryz.ntmps189
  go_wp2_with (first
   | (go_at_fn 84; refine (Tryz.internal_strconv_numDigits u hu1 hu64 _ (Lib.tabIs_alloc htab _)).mono ?_; rintro e w' ⟨rfl, rfl⟩))
  refine hfmt.mono ?_
  rintro e w' ⟨rfl, k, v', dk, rfl, hF⟩
  have hcv : (convert 68 9 (.slice (some ⟨w.heap.size, 0, none⟩) (Lib.nDigits u) 24)).run Tryz.prog ((putRow (fun (b : UInt8) => Value.int .u8 (b.toNat : Int)) (w.alloc (.cells Lib.zeros24 142)) w.heap.size 0 dk).drewN k) = .ok (.string ⟨(Lib.decDigits u).toArray⟩) ((putRow (fun (b : UInt8) => Value.int .u8 (b.toNat : Int)) (w.alloc (.cells Lib.zeros24 142)) w.heap.size 0 dk).drewN k) := by
   have h := run_convert_bytes_back (P := Tryz.prog) ((putRow (fun (b : UInt8) => Value.int .u8 (b.toNat : Int)) (w.alloc (.cells Lib.zeros24 142)) w.heap.size 0 dk).drewN k) 68 9 5 ⟨w.heap.size, 0, none⟩ 24 (Lib.decDigits u) Tryz.underlying68 Tryz.underlying5 Tryz.underlying9 (fun j hj => by
    rw [Lib.row_is_numeral hF j hj, Lib.add_plain, World.cell?_drewN]
    exact cell?_putRow (fun (b : UInt8) => Value.int .u8 (b.toNat : Int)) _ w.heap.size 0 _ dk HH0.out (by rw [hF.size, Array.size_replicate]) j (by rw [hF.size]; rw [Lib.decDigits_length] at hj; exact hj))
   rw [Lib.decDigits_length] at h
   exact h
  go_wp2
  go_ret
  obtain ⟨os, eo⟩ := Lib.fin_at w (.cells Lib.zeros24 142) dk k 0
  exact ⟨rfl, k, os, eo⟩
end Go.Proofs.YtelhdhofnohkcaaGreatDoor
namespace Go.Proofs.YtelhdhofnohkcaaGreatDoor
open Go.Eng Go.Fm
set_option maxRecDepth 20000
attribute [local irreducible] AG CallA CallT AWp PCall ACall AgC
theorem dec_txt (u : Nat) : Lib.decDigits u = txtB 10 u := by
 have h := itoa_show (u : Int)
 rw [Lib.itoa_nonneg] at h
 rw [h]
 unfold showB
 rw [if_neg (by omega)]
 simp
theorem fmtU10_spec (u : Nat) (h : u < 2 ^ 64) : PCall Tryz.prog 189 [.v (.int .u64 u), dI 10] fun r => r = dS (txtB 10 u) := by
 refine pcall_below ⟨_, Tryz.func189, rfl, rfl⟩ fun C w us hc hg hr => ?_
 have hg : glOk w := hg
 obtain rfl := repL_v (us := [.int .u64 u, .int .i64 10]) hr
 refine (fmtU10_w u (by omega) w hg.1).mono ?_
 rintro e w' ⟨rfl, k, os, rfl⟩
 exact ⟨_, _, rfl, by rw [dec_txt], .v _, below_gd w k os⟩
theorem fmtUB_spec {b s k : Nat} (h : Bas b s k) (u : Nat) (hu : u < 2 ^ 64) : PCall Tryz.prog 189 [.v (.int .u64 u), dI b] fun r => r = dS (txtB b u) := by 
 refine pcall_of Tryz.func189 rfl rfl Tryz.ntmps189 (rs := [.tmp 4]) (tys := [9]) rfl rfl (by simp) ?_
 have hb : ¬ (b : Int) = 10 := by rcases h.cases with ⟨rfl, _, _⟩ | ⟨rfl, _, _⟩ | ⟨rfl, _, _⟩ <;> decide
 have B := bits_spec h (u : Int) u false rfl hu
 simp only [Bool.false_eq_true, if_false, List.nil_append] at B
 (refine awp_sr fun Y Yh => ?_; simp [go_sem]; ((repeat' (first|(refine ag_x ?_;simp [go_sem])|intro _|apply And.intro|(apply Yh;clear Yh Y)));all_goals first|apply Hold.mk|omega|with_reducible assumption|skip))
 refine awp_seq_k fun K1 hK1 => ?_
 (refine awp_sr fun Y Yh => ?_; simp [go_sem]; ((repeat' (first|(refine ag_x ?_;simp [go_sem])|intro _|apply And.intro|(apply Yh;clear Yh Y)));all_goals first|apply Hold.mk|omega|with_reducible assumption|skip))
 (refine awp_if fun T F hT hF => ?_; simp [go_sem, hb]; refine hF ?_; clear hT hF T F)
 refine awp_skip ?_
 refine hK1 _ ?_; clear hK1
 (refine awp_sr fun Y Yh => ?_; simp [go_sem]; ((repeat' (first|(refine ag_x ?_;simp [go_sem])|intro _|apply And.intro|(apply Yh;clear Yh Y)));all_goals first|apply Hold.mk|omega|with_reducible assumption|skip))
 ((try refine CallT.toA ?_); refine callT_m (.inl ⟨rfl,rfl⟩) (by simp [go_sem]) ?_; intro args ha; simp [go_sem] at ha; subst ha; refine ⟨_, B, ?_⟩; rintro _ rfl; simp [go_sem]; ((repeat' (first|(refine ag_x ?_;simp [go_sem])|intro _|apply And.intro|(apply Yh;clear Yh Y)));all_goals first|apply Hold.mk|omega|with_reducible assumption|skip))
 (refine awp_sr fun Y Yh => ?_; simp [go_sem]; ((repeat' (first|(refine ag_x ?_;simp [go_sem])|intro _|apply And.intro|(apply Yh;clear Yh Y)));all_goals first|apply Hold.mk|omega|with_reducible assumption|skip))
 (refine awp_ret ?_; simp [go_sem])
theorem fmtU_spec (b : Nat) (hb : b = 2 ∨ b = 8 ∨ b = 16 ∨ b = 10) (u : Nat) (hu : u < 2 ^ 64) : PCall Tryz.prog 166 [.v (.int .u64 u), dI b] fun r => r = dS (txtB b u) := by 
 have hP : PCall Tryz.prog 189 [.v (.int .u64 u), dI b] fun r => r = dS (txtB b u) := by
  rcases hb with rfl | rfl | rfl | rfl
  ·exact fmtUB_spec (s := 1) (k := 1) (by simp [Bas]) u hu
  ·exact fmtUB_spec (s := 3) (k := 7) (by simp [Bas]) u hu
  ·exact fmtUB_spec (s := 4) (k := 15) (by simp [Bas]) u hu
  ·exact fmtU10_spec u hu
 refine pcall_of Tryz.func166 rfl rfl Tryz.ntmps166 (rs := [.tmp 4]) (tys := [9]) rfl rfl (by simp) ?_
 (refine awp_sr fun Y Yh => ?_; simp [go_sem]; ((repeat' (first|(refine ag_x ?_;simp [go_sem])|intro _|apply And.intro|(apply Yh;clear Yh Y)));all_goals first|apply Hold.mk|omega|with_reducible assumption|skip))
 (refine awp_sr fun Y Yh => ?_; simp [go_sem]; ((repeat' (first|(refine ag_x ?_;simp [go_sem])|intro _|apply And.intro|(apply Yh;clear Yh Y)));all_goals first|apply Hold.mk|omega|with_reducible assumption|skip))
 ((try refine CallT.toA ?_); refine callT_m (.inl ⟨rfl,rfl⟩) (by simp [go_sem]) ?_; intro args ha; simp [go_sem] at ha; subst ha; refine ⟨_, hP, ?_⟩; rintro _ rfl; simp [go_sem]; ((repeat' (first|(refine ag_x ?_;simp [go_sem])|intro _|apply And.intro|(apply Yh;clear Yh Y)));all_goals first|apply Hold.mk|omega|with_reducible assumption|skip))
 (refine awp_ret ?_; simp [go_sem])
end Go.Proofs.YtelhdhofnohkcaaGreatDoor
