/- Part of a proof: see the last text. -/
import Derived.Test.YteekfnhhlcmcgaaGreatDoorFX
import Derived.Test.YteekfnhhlcmcgaaGreatDoorFD
import Derived.Test.YteekfnhhlcmcgaaGreatDoorFA
set_option linter.unusedVariables false
set_option linter.unusedSimpArgs false
set_option linter.unusedSectionVars false
namespace Go.Eng
variable {P : Program} [HasGlob P]
/-! results that hold an own row inside a struct of one cell, and such structs as arguments -/
def frzDG (ss : List Nat) (S : St) (d : D) (k : St → D → Prop) : Prop :=
 match d with
 | .agg [.own s g] => if ss.contains s then k S (.agg [.own s g]) else frzDA ss S (.agg [.own s g]) k
 | d => frzDA ss S d k
def frzDsG (ss : List Nat) : St → List D → (St → List D → Prop) → Prop
 | S, [], k => k S []
 | S, d :: ds, k => frzDG ss S d fun S' d' => frzDsG ss S' ds fun S'' ds' => k S'' (d' :: ds')
def retG (P : Program) (rs : List ResultVar) (tys : List TypeId) (ss : List Nat) (R : List (Nat × Blk) → D → Prop) : Exit → St → Prop
 | .normal, S | .ret, S => resL P S rs fun ds => frzDsG ss S ds fun S' ds' => postK S' ss fun ps => R ps (pack (nilDs P tys ds'))
 | _, _ => False
section
variable {w0 w : World} {B : Nat → Nat → Prop} {C0 C : Ctx} {n : Nat} {a : Act} {S : St}
theorem frzDG_ok {ss : List Nat} (I : Inv w0 B C0 n S C a w) {d : D} {k : St → D → Prop} (h : frzDG ss S d k) : ∃ S' d' C', k S' d' ∧ Inv w0 B C0 n S' C' a w ∧ Ext C w C' w ∧ ∀ u, Rep C w d u → Rep C' w d' u := by
 unfold frzDG at h
 split at h
 ·split at h
  ·exact ⟨S, _, C, h, I, Ext.refl _ _, fun u hu => hu⟩
  ·exact frzDA_ok I h
 ·exact frzDA_ok I h
theorem frzDsG_ok {ss : List Nat} : ∀ {ds : List D} {S : St} {C : Ctx} (_ : Inv w0 B C0 n S C a w) {k : St → List D → Prop}, frzDsG ss S ds k →
  ∃ S' ds' C', k S' ds' ∧ Inv w0 B C0 n S' C' a w ∧ Ext C w C' w ∧ ∀ us, RepL C w ds us → RepL C' w ds' us
 | [], S, C, I, k, h => ⟨S, [], C, h, I, Ext.refl _ _, fun us h => h⟩
 | d :: ds, S, C, I, k, h => by
  obtain ⟨S1, d1, C1, h1, I1, e1, r1⟩ := frzDG_ok I h
  obtain ⟨S2, ds2, C2, h2, I2, e2, r2⟩ := frzDsG_ok I1 h1
  refine ⟨S2, d1 :: ds2, C2, h2, I2, e1.trans e2, fun us hus => ?_⟩
  cases us with
  | nil => have := hus.1; simp at this
  | cons u us =>
   have hr2 := r2 us ⟨by have := hus.1; simpa using this, fun j d u hd hu => (hus.2 (j + 1) d u (by simpa using hd) (by simpa using hu)).mono e1⟩
   refine ⟨by simp [hr2.1], fun j d' u' hd' hu' => ?_⟩
   cases j with
   | zero => simp at hd' hu'; subst hd' hu'; exact (r1 _ (hus.2 0 d _ rfl rfl)).mono e2
   | succ j => exact hr2.2 j d' u' (by simpa using hd') (by simpa using hu')
end
theorem acall_og {f : FuncId} {fn : Func} {c : Code} {args : List D} {es : List (Nat × (Nat × Blk))} {ss : List Nat} {R : List (Nat × Blk) → D → Prop} (hf : P.funcs[f]? = some fn) (hb : fn.body = some c) (hn : (fn.name == "runtime.NumGoroutine") = false) {n : Nat} {rs : List ResultVar} {tys : List TypeId} (hnt : fn.ntmps = n) (hrs : fn.results.toList = rs) (hty : fn.resultTypes.toList = tys) (hlen : args.length ≤ n)
  (hes : ∀ p ∈ es, 900000 ≤ p.1 ∧ notFroz p.2.2 = true ∧ p.1 ∈ ss) (h : AWp P n c ⟨argS 0 args, es⟩ (retG P rs tys ss R)) : ACall P f args es ss R := by
 subst hnt hrs hty
 refine ⟨⟨fn, hf, hn, by rw [hb]; rfl⟩, hes, fun C w us hc hg hr hent => ?_⟩
 refine calls_of_wp hf hb ?_
 have hsz : us.length = args.length := hr.1
 have hlive : ∀ s g, LentB es s g → C.live s g = true := fun s g ⟨x, hx⟩ => ((hent s g x hx).liveOf (hes _ (look_mem hx)).2.1).1
 let a : Act := { tmps := us.toArray ++ Array.replicate (fn.ntmps - us.toArray.size) undef, defers := [] }
 have I : Inv w (LentB es) C fn.ntmps ⟨argS 0 args, es⟩ C a w := by
  refine ⟨by simp [a]; omega, rfl, fun k d hk => ?_, fun s g b hb => hent s g b hb, fun s g b x u hx _ hv hbk => .inr ⟨⟨s, g, u, ⟨x, hx⟩, hv, hbk⟩, (hes _ (look_mem hx)).1⟩, hc.apart, hc.bound, hc.fresh, Frm.refl _ _, fun _ _ _ h => h, fun _ _ h => h, fun _ _ _ _ h _ => h,
   fun s g x y hx _ => ⟨x, hx⟩, fun _ _ _ _ h => h, fun s g u b h1 h2 h3 => hc.bound s g u b h1 h2 h3⟩
  obtain ⟨_, h2⟩ := argS_look hk
  rw [Nat.sub_zero] at h2
  have hlt : k < us.length := by rw [hsz]; exact (List.getElem?_eq_some_iff.1 h2).1
  have hu : us[k]? = some us[k] := List.getElem?_eq_getElem hlt
  refine ⟨us[k], ?_, hr.2 k d _ h2 hu⟩
  simp only [a]
  rw [Array.getElem?_append_left (by simpa using hlt)]
  simp [hu]
 refine wp_mono (h ⟨hg, hlive⟩ I) ?_
 rintro e a' w' ⟨S', C', hq, I'⟩
 have fin : (resL P S' fn.results.toList fun ds => frzDsG ss S' ds fun S'' ds' => postK S'' ss fun ps => R ps (pack (nilDs P fn.resultTypes.toList ds'))) →
   a'.defers = [] ∧ ∃ v, (results fn a'.tmps).run P w' = .ok v w' ∧ ∃ u r ps C'', Ending.returned v = .returned u ∧ R ps r ∧ Rep C'' w' r u ∧ CtxOk C'' w' ∧ Ext C w C'' w' ∧ Posts C'' w' ss ps ∧
   (∀ (j : Nat) s p u b, ss[j]? = some s → ps[j]? = some p → C''.val s p.1 = some u → blk u = some b → w.heap.size ≤ b ∨ (bB C (LentB es) b ∧ 900000 ≤ s)) ∧
   (∀ (j : Nat) s p y, ss[j]? = some s → ps[j]? = some p → C.val s p.1 = some y → LentB es s p.1) ∧
   (∀ s g x, C.val s g = some x → ¬ LentB es s g → C''.live s g = C.live s g) ∧ (∀ s g x, C.val s g = some x → C''.live s g = true → C.live s g = true) ∧
   Frm w (bB C (LentB es)) w' := fun hq => by
  refine ⟨I'.defers, ?_⟩
  obtain ⟨ds, us, hk, hrs, hlen, hrun⟩ := resL_ok I' hq
  obtain ⟨S2, ds', C2, hk2, I2, e2, hr'⟩ := frzDsG_ok I' hk
  obtain ⟨ps, hR, hpl, hpost⟩ := postK_ok hk2
  obtain ⟨u, hu, hpk⟩ := pack_ok (nilDs_ok (P := P) (tys := fn.resultTypes.toList) (hr' us hrs))
  refine ⟨u, ?_, u, _, ps, C2, rfl, hR, hu, ⟨I2.apart, I2.bound, I2.fresh⟩, ⟨I2.old, I2.owned, fun b hb hno => I2.frame.block b hb (fun ⟨s, g, v, q1, q2, q3⟩ => hno ⟨s, g, v, q2, hlive s g q1, q3⟩), I2.frame.size⟩,
   ⟨hpl, fun j s p h1 h2 => ⟨I2.heap s p.1 p.2 (hpost j s p h1 h2).1, (hpost j s p h1 h2).2⟩⟩, fun j s p v b h1 h2 h3 h4 => ?_, fun j s p y h1 h2 h3 => I2.ents s p.1 p.2 y (hpost j s p h1 h2).1 h3, fun s g x hx hnl => ?_, fun s g x h1 h2 => I2.dead0 s g x h1 h2, I2.frame⟩
  ·have hfun : (fun r : ResultVar => match r with | .tmp t => (pure (a'.tmps.getD t undef) : Sem Value) | .cell p ty => do loadVar ty (← asAddr (a'.tmps.getD p undef))) = rvSem a'.tmps := by
    funext r; cases r <;> rfl
   have hres : results fn a'.tmps = (do let vs ← fn.results.mapM (rvSem a'.tmps); pure (if h : vs.size = 1 then vs[0] else .tuple vs)) := by
    rw [← hfun]; rfl
   rw [hres, Array.mapM_eq_mapM_toList]
   simp only [Sem.run_bind, Sem.run_map, hrun, Result.andThen_ok, Sem.run_pure]
   rw [← hpk]
  ·obtain ⟨q1, q2⟩ := hpost j s p h1 h2
   exact I2.mine s p.1 b p.2 v q1 ((I2.heap _ _ _ q1).liveOf q2).1 h3 h4
  ·cases h0 : C.live s g with
   | true => exact I2.kept s g x hx h0 hnl
   | false =>
    cases h1 : C2.live s g with
    | false => rfl
    | true => rw [I2.dead0 s g x hx h1] at h0; cases h0
 cases e with
 | normal => exact fin hq
 | ret => exact fin hq
 | exit id => exact hq.elim
 | goto l => exact hq.elim
 | panic ch => exact hq.elim
 | outgrown => exact hq.elim
theorem callA_e {S : St} {df : D} {f : FuncId} {caps ds : List D} {tys : List TypeId} {k : St → D → Prop} (ss : List Nat) (hf : FunD df f caps)
  (h : ∀ args, ds ++ caps = args → ∃ es R, ACall P f args es ss R ∧ covL S.heap es ∧ ∀ ps r, ps.length = ss.length → R ps r → k (putPs S ss ps) r) : CallA P df ds tys S k := by
 obtain ⟨es, R, h, hes, hR⟩ := h _ rfl
 intro w0 B C0 n C a w us uf E I hr hu
 obtain ⟨cs, rfl, hcs⟩ := hf.rep hu
 refine ⟨f, cs, rfl, h.1, ?_⟩
 have hes' : ∀ s g x, look es s = some (g, x) → look S.heap s = some (g, x) ∧ 900000 ≤ s ∧ notFroz x = true ∧ s ∈ ss := fun s g x hx => by
  have hm := h.2.1 _ (look_mem hx)
  exact ⟨covL_ok hes s _ hx, hm⟩
 refine (h.2.2 C w (us ++ cs.toList) I.ctxOk (E.now I) (hr.append hcs) (fun s g b hb => I.heap s g b (hes' s g b hb).1)).mono ?_
 rintro e w' ⟨u, r, ps, C', rfl, hRr, hru, hok, ext, hp, hm, he, hl, hd, hfrm⟩
 exact ⟨u, r, _, C', rfl, hR ps r hp.1 hRr, hru, I.afterL hes' ext hok hp hm he hl hd hfrm⟩
attribute [go_sem] retG frzDsG frzDG
end Go.Eng
namespace Go.Proofs.YteekfnhhlcmcgaaGreatDoor
open Go.Eng Go.Wh Go.Ver Go.RowKit Go.Lk
set_option maxRecDepth 20000
attribute [local irreducible] AG CallA CallT AWp PCall ACall AgC
/-! Grown with its row of gems handed back as an own row: ResolveFirst writes into it. -/
set_option maxHeartbeats 64000000 in
theorem rGrownA_spec (l : List Int) (hl : l.length ≤ 9223372036854775807) : ACall Tryz.prog 13 [dIs l] [] [900011] fun ps r => ∃ s w g, GrOk s w ∧ ps = [(g, .row 46 2 (s.map cGm))] ∧ r = .tup [.agg [.own 900011 g], dPs w] := by 
 refine acall_og Tryz.func13 rfl rfl Tryz.ntmps13 (rs := [.cell 2 25, .tmp 3]) (tys := [25, 26]) rfl rfl (by simp) (by simp) ?_
 have PK := fun a n g ha hn hn2 => pick_spec l a n g hl ha hn hn2
 have GN := fun a m g ha hm => gneeds_spec l a m g hl ha hm
 (refine awp_sr fun Y Yh => ?_; simp [go_sem]; ((repeat' (first|(refine ag_x ?_;simp [go_sem])|intro _|apply And.intro|(apply Yh;clear Yh Y)));all_goals first|apply Hold.mk|omega|assumption|skip))
 rename_i g2
 (refine awp_sr fun Y Yh => ?_; simp [go_sem]; ((repeat' (first|(refine ag_x ?_;simp [go_sem])|intro _|apply And.intro|(apply Yh;clear Yh Y)));all_goals first|apply Hold.mk|omega|assumption|skip))
 refine awp_renbox 4 900002 rfl rfl (by decide) fun g4 => ?_
 simp only [go_sem]
 (refine awp_sr fun Y Yh => ?_; simp [go_sem]; ((repeat' (first|(refine ag_x ?_;simp [go_sem])|intro _|apply And.intro|(apply Yh;clear Yh Y)));all_goals first|apply Hold.mk|omega|assumption|skip))
 rename_i g5
 refine awp_nilbox 900011 46 2 0 (sb := 5) rfl rfl (by decide) fun gs => ?_
 simp only [List.set, go_sem]
 (refine awp_sr fun Y Yh => ?_; simp [go_sem]; ((repeat' (first|(refine ag_x ?_;simp [go_sem])|intro _|apply And.intro|(apply Yh;clear Yh Y)));all_goals first|apply Hold.mk|omega|assumption|skip))
 refine awp_frzrow 6 rfl rfl ?_
 simp only [go_sem]
 refine awp_seq_k fun K1 hK1 => ?_
 (refine awp_sr fun Y Yh => ?_; simp [go_sem]; ((repeat' (first|(refine ag_x ?_;simp [go_sem])|intro _|apply And.intro|(apply Yh;clear Yh Y)));all_goals first|apply Hold.mk|omega|assumption|skip))
 refine awp_block ?_
 refine awp_loop (σ := Nat × Nat × Src × Nat) (fun x => ⟨[(0, dIs l), (2, .ptr 2 g2 0), (4, .ptr 900002 g4 0), (5, .ptr 5 g5 0), (6, dSs gnmL), (7, dI x.1)], [(2, (g2, .box [.v (.slice none 0 0)])), (900002, (g4, .box [dIs l, dI x.2.1])), (5, (g5, .box [.own 900011 x.2.2.2])), (900011, (x.2.2.2, .row 46 2 (x.2.2.1.map cGm)))]⟩)
  (fun x => x.1 ≤ 5 ∧ x.2.1 ≤ l.length ∧ x.2.2.1.map (·.1) = gnmL.take x.1 ∧ ∀ g ∈ x.2.2.1, vuV g.2 = true ∧ g.2.length ≤ 4) (fun x => 5 - x.1) (0, 0, [], gs) ?_ ?_ ?_
 ·(refine cov_of ?_ ?_ <;> simp [go_sem, gnmL])
 ·simp
 rintro ⟨i, a, s, gs⟩ ⟨hi, ha, hsn, hsv⟩
 simp only at hi ha hsn hsv
 have hsl : s.length = i := by have := congrArg List.length hsn; simp [gnmL] at this; omega
 refine awp_seq_k fun K2 hK2 => ?_
 (refine awp_sr fun Y Yh => ?_; simp [go_sem]; ((repeat' (first|(refine ag_x ?_;simp [go_sem])|intro _|apply And.intro|(apply Yh;clear Yh Y)));all_goals first|apply Hold.mk|omega|assumption|skip))
 (refine awp_if fun T F hT hF => ?_; simp [go_sem]; refine BR.intro (fun h3 => hT ?_) (fun h3 => hF ?_); all_goals clear hT hF T F; try simp at h3)
 ·refine awp_skip ?_
  refine hK2 _ ?_; clear hK2
  obtain ⟨nm, hnm, hnmm⟩ := lit_at gnmL (k := i) (by simp [gnmL]; omega)
  have r0 : (gnmL.map cS)[i]? = some (cS nm) := by rw [List.getElem?_map, hnm]; rfl
  refine awp_seq_k fun K4 hK4 => ?_
  refine awp_block ?_
  (refine awp_sr fun Y Yh => ?_; simp [go_sem, hnm]; ((repeat' (first|(refine ag_x ?_;simp [go_sem, hnm])|intro _|apply And.intro|(apply Yh;clear Yh Y)));all_goals first|apply Hold.mk|omega|assumption|skip))
  rename_i g8
  refine awp_nilbox 900010 48 2 1 (sb := 8) rfl rfl (by decide) fun gv => ?_
  simp only [List.set, go_sem]
  have P1 := PK a 4 g4 ha (by decide) (by decide)
  have hk1 := pickK_lt (l := l) (a := a) (n := 4) (by decide)
  have ha1 := pickA_le ha
  generalize pickK l a 4 = k1 at *
  generalize pickA l a = a1 at *
  refine awp_seq_k fun K5 hK5 => ?_
  (refine awp_sr fun Y Yh => ?_; simp [go_sem]; ((repeat' (first|(refine ag_x ?_;simp [go_sem])|intro _|apply And.intro|(apply Yh;clear Yh Y)));all_goals first|apply Hold.mk|omega|assumption|skip))
  (refine callA_l [900002] (.inl ⟨rfl,rfl⟩) (by simp [go_sem]) ?_; intro args ha; simp [go_sem] at ha; subst ha; refine ⟨_, _, P1, (by simp [go_sem]), ?_⟩; rintro ps r hps ⟨rfl, rfl⟩; simp [go_sem]; ((repeat' (first|(refine ag_x ?_;simp [go_sem])|intro _|apply And.intro|(apply Yh;clear Yh Y)));all_goals first|apply Hold.mk|omega|assumption|skip))
  refine awp_block ?_
  refine awp_loop (σ := Nat × Nat × List Vrs × Nat) (fun x => ⟨[(0, dIs l), (2, .ptr 2 g2 0), (4, .ptr 900002 g4 0), (5, .ptr 5 g5 0), (6, dSs gnmL), (7, dI i), (8, .ptr 8 g8 0), (9, dI ((x.1 : Int) - 1))], [(2, (g2, .box [.v (.slice none 0 0)])), (900002, (g4, .box [dIs l, dI x.2.1])), (5, (g5, .box [.own 900011 gs])), (900011, (gs, .row 46 2 (s.map cGm))), (8, (g8, .box [dS nm, .own 900010 x.2.2.2])), (900010, (x.2.2.2, .row 48 2 (x.2.2.1.map cVr)))]⟩)
   (fun x => x.2.1 ≤ l.length ∧ vuV x.2.2.1 = true ∧ x.2.2.1.length + x.1 ≤ 4) (fun x => x.1) (k1 + 1, a1, [], gv) ?_ ?_ ?_
  ·(refine cov_of ?_ ?_ <;> simp [go_sem])
   try omega
  ·exact ⟨ha1, rfl, by simp; omega⟩
  rintro ⟨q, a, vs, gv⟩ ⟨ha, hvu, hvl⟩
  simp only at ha hvu hvl
  have tl5 : ∀ S', Cov S' ⟨[(0, dIs l), (2, .ptr 2 g2 0), (4, .ptr 900002 g4 0), (5, .ptr 5 g5 0), (6, dSs gnmL), (7, dI i), (8, .ptr 8 g8 0)], [(2, (g2, .box [.v (.slice none 0 0)])), (900002, (g4, .box [dIs l, dI a])), (5, (g5, .box [.own 900011 gs])), (900011, (gs, .row 46 2 (s.map cGm))), (8, (g8, .box [dS nm, .own 900010 gv])), (900010, (gv, .row 48 2 (vs.map cVr)))]⟩ → K5 S' := fun S' hS => by
   refine hK5 _ ?_; clear hK5
   refine awp_cov hS ?_; clear hS
   (refine awp_r fun Y Yh => ?_; simp [go_sem]; ((repeat' (first|(refine ag_x ?_;simp [go_sem])|intro _|apply And.intro|(apply Yh;clear Yh Y)));all_goals first|apply Hold.mk|omega|assumption|skip))
   refine hK4 _ ?_; clear hK4
   (refine awp_r fun Y Yh => ?_; simp [go_sem]; ((repeat' (first|(refine ag_x ?_;simp [go_sem])|intro _|apply And.intro|(apply Yh;clear Yh Y)));all_goals first|apply Hold.mk|omega|assumption|skip))
   rename_i g' g''
   refine ⟨(i + 1, a, s ++ [(nm, vs)], g''), ?_, ⟨by simp only; omega, ha, ?_, ?_⟩, by simp only; omega⟩
   ·(refine cov_of ?_ ?_ <;> simp [go_sem])
   ·rw [List.map_append, hsn, List.take_add_one, hnm]; rfl
   ·intro g hg
    rcases List.mem_append.1 hg with h | h
    ·exact hsv g h
    ·simp at h; subst h; exact ⟨hvu, by show vs.length ≤ 4; omega⟩
  clear hK5 hK4
  refine awp_seq_k fun K6 hK6 => ?_
  cases q with
  | zero =>
   (refine awp_sr fun Y Yh => ?_; simp [go_sem]; ((repeat' (first|(refine ag_false ?_ ?_ ?_;(focus (simp [go_sem, undef];done));(focus (simp [go_sem];done));simp [go_sem])|(refine ag_true ?_ ?_;(focus (simp [go_sem, undef];done));simp [go_sem])|(refine ag_x ?_;simp [go_sem, undef])|intro _|apply And.intro|(apply Yh;clear Yh Y)));all_goals first|apply Hold.mk|omega|assumption|skip))
   (refine awp_if fun T F hT hF => ?_; simp [go_sem]; refine hF ?_; clear hT hF T F)
   refine awp_exit ?_
   simp only [go_sem]
   refine tl5 _ ?_
   (refine cov_of ?_ ?_ <;> simp [go_sem])
  | succ q =>
   have hq0 : (0 : Int) ≤ (q : Int) + 1 - 1 := by omega
   have hqe : (q : Int) + 1 - 1 = q := by omega
   by_cases hal : a < l.length
   ·have hali : (a : Int) < l.length := by omega
    (refine awp_sr fun Y Yh => ?_; simp [go_sem, hq0, hqe, hal, hali]; ((repeat' (first|(refine ag_x ?_;simp [go_sem, hq0, hqe, hal, hali])|intro _|apply And.intro|(apply Yh;clear Yh Y)));all_goals first|apply Hold.mk|omega|assumption|skip))
    (refine awp_if fun T F hT hF => ?_; simp [go_sem, hq0, hqe, hal, hali]; refine hT ?_; clear hT hF T F)
    refine awp_skip ?_
    refine hK6 _ ?_; clear hK6
    refine awp_seq_j (α := {x : Nat × List Vrs × Nat // x.1 ≤ l.length ∧ vuV x.2.1 = true ∧ x.2.1.length + q ≤ 4}) (fun x => ⟨[(0, dIs l), (2, .ptr 2 g2 0), (4, .ptr 900002 g4 0), (5, .ptr 5 g5 0), (6, dSs gnmL), (7, dI i), (8, .ptr 8 g8 0), (9, dI q)], [(2, (g2, .box [.v (.slice none 0 0)])), (900002, (g4, .box [dIs l, dI x.1.1])), (5, (g5, .box [.own 900011 gs])), (900011, (gs, .row 46 2 (s.map cGm))), (8, (g8, .box [dS nm, .own 900010 x.1.2.2])), (900010, (x.1.2.2, .row 48 2 (x.1.2.1.map cVr)))]⟩) (fun K8 hK8 hM8 => ?_) (fun x => ?_)
    rotate_left
    ·obtain ⟨⟨a', vs', g'⟩, h1, h2, h3'⟩ := x
     simp only at h1 h2 h3'
     (refine awp_r fun Y Yh => ?_; simp [go_sem]; ((repeat' (first|(refine ag_x ?_;simp [go_sem])|intro _|apply And.intro|(apply Yh;clear Yh Y)));all_goals first|apply Hold.mk|omega|assumption|skip))
     refine ⟨(q, a', vs', g'), ?_, ⟨h1, h2, by simp only; omega⟩, by simp⟩
     (refine cov_of ?_ ?_ <;> simp [go_sem])
    have P2 := PK a 5 g4 ha (by decide) (by decide)
    have hk2 := pickK_lt (l := l) (a := a) (n := 5) (by decide)
    have ha2 := pickA_le ha
    generalize pickK l a 5 = k2 at *
    generalize pickA l a = a2 at *
    have N2 := GN a2 2 g4 ha2 (by decide)
    obtain ⟨num, hnum, hnumm⟩ := lit_at numL (k := k2) hk2
    have hnl : num.length ≤ 20 := (by decide : ∀ y ∈ numL, y.length ≤ 20) num hnumm
    have r1 : ([[dS [49, 46, 48]], [dS [49, 46, 53]], [dS [50, 46, 48]], [dS [50, 46, 49, 46, 97]], [dS [51]]] : List (List D))[k2]? = some [dS num] := by
     have : (numL.map cS)[k2]? = some (cS num) := by rw [List.getElem?_map, hnum]; rfl
     exact this
    refine awp_block ?_
    refine awp_seq_j (α := {x : Nat × List Prs // x.1 ≤ l.length ∧ nuV 10 x.2 = true ∧ x.2.length ≤ 2}) (fun x => ⟨[(0, dIs l), (2, .ptr 2 g2 0), (4, .ptr 900002 g4 0), (5, .ptr 5 g5 0), (6, dSs gnmL), (7, dI i), (8, .ptr 8 g8 0), (9, dI q), (10, .rd [dS num, dPs x.1.2])], [(2, (g2, .box [.v (.slice none 0 0)])), (900002, (g4, .box [dIs l, dI x.1.1])), (5, (g5, .box [.own 900011 gs])), (900011, (gs, .row 46 2 (s.map cGm))), (8, (g8, .box [dS nm, .own 900010 gv])), (900010, (gv, .row 48 2 (vs.map cVr)))]⟩) (fun K9 hK9 hM9 => ?_) (fun x => ?_)
    ·((refine awp_d (.qs [1, 5] (.three 0 (.two 2 (.qs [3] (.three 4 (.two 6 (.qs [7] (.kp 8 (.one 9 (.nil)))) 8 (.one 6 (.qs [7] (.one 9 (.nil))))) 6 (.qs [4, 7] (.kp 8 (.one 9 (.nil)))) 8 (.kq 4 (.one 6 (.qs [7] (.one 9 (.nil)))) 6 (.qs [4, 7] (.one 9 (.nil)))))) 8 (.one 2 (.qs [3] (.kq 4 (.one 6 (.qs [7] (.one 9 (.nil)))) 6 (.qs [4, 7] (.one 9 (.nil))))))) 2 (.three 0 (.qs [3] (.three 4 (.two 6 (.qs [7] (.kp 8 (.one 9 (.nil)))) 8 (.one 6 (.qs [7] (.one 9 (.nil))))) 6 (.qs [4, 7] (.kp 8 (.one 9 (.nil)))) 8 (.kq 4 (.one 6 (.qs [7] (.one 9 (.nil)))) 6 (.qs [4, 7] (.one 9 (.nil)))))) 6 (.kp2 0 (.qs [3] (.nb (.qs [4, 7] (.kp 8 (.one 9 (.nil)))))) 8 (.kp 0 (.qs [3] (.nb (.qs [4, 7] (.one 9 (.nil))))))) 8 (.two 0 (.qs [3] (.kq 4 (.one 6 (.qs [7] (.one 9 (.nil)))) 6 (.qs [4, 7] (.one 9 (.nil))))) 6 (.one 0 (.qs [3, 4, 7] (.one 9 (.nil)))))) 8 (.two 0 (.one 2 (.qs [3] (.kq 4 (.one 6 (.qs [7] (.one 9 (.nil)))) 6 (.qs [4, 7] (.one 9 (.nil)))))) 2 (.two 0 (.qs [3] (.kq 4 (.one 6 (.qs [7] (.one 9 (.nil)))) 6 (.qs [4, 7] (.one 9 (.nil))))) 6 (.one 0 (.qs [3, 4, 7] (.one 9 (.nil)))))))) (by kernel_rfl) ?_ ?_ ?_ ?_); (kernel_rfl); (exact (by decide +kernel)); (kernel_rfl); intro Y Yh; ((repeat' (first|(refine ag_x ?_;simp [go_sem, r1, hqe])|refine adr_nil ?_|refine adr_two ?_ ?_|refine adr_kq ?_ ?_|refine adr_three ?_ ?_ ?_|refine adr_kp2 ?_ ?_|((first|refine adr_qs fun Y Yh=>?_|refine adr_y fun Y Yh=>?_);simp [go_sem, r1, hqe])|intro _|apply And.intro|(apply Yh;clear Yh Y)));all_goals first|apply Hold.mk|omega|assumption|skip))
     all_goals (refine callA_l [900002] (.inl ⟨rfl,rfl⟩) (by simp [go_sem]) ?_; intro args ha; simp [go_sem] at ha; subst ha; refine ⟨_, _, P2, (by simp [go_sem, r1, hqe]), ?_⟩; rintro ps r hps ⟨rfl, rfl⟩; simp [go_sem, r1, hqe]; ((repeat' (first|(refine ag_x ?_;simp [go_sem, r1, hqe])|refine adr_nil ?_|refine adr_two ?_ ?_|refine adr_kq ?_ ?_|refine adr_three ?_ ?_ ?_|refine adr_kp2 ?_ ?_|((first|refine adr_qs fun Y Yh=>?_|refine adr_y fun Y Yh=>?_);simp [go_sem, r1, hqe])|intro _|apply And.intro|(apply Yh;clear Yh Y)));all_goals first|apply Hold.mk|omega|assumption|skip))
     all_goals (refine callA_l [900002] (.inl ⟨rfl,rfl⟩) (by simp [go_sem]) ?_; intro args ha; simp [go_sem] at ha; subst ha; refine ⟨_, _, N2, (by simp [go_sem, r1, hqe]), ?_⟩; rintro ps r hps ⟨a', out, h1, h2, h3', rfl, rfl⟩; simp [go_sem, r1, hqe]; ((repeat' (first|(refine ag_x ?_;simp [go_sem, r1, hqe])|refine adr_nil ?_|refine adr_two ?_ ?_|refine adr_kq ?_ ?_|refine adr_three ?_ ?_ ?_|refine adr_kp2 ?_ ?_|((first|refine adr_qs fun Y Yh=>?_|refine adr_y fun Y Yh=>?_);simp [go_sem, r1, hqe])|intro _|apply And.intro|(apply Yh;clear Yh Y)));all_goals first|apply Hold.mk|omega|assumption|skip))
     all_goals
      refine hK9 _ ?_
      refine awp_frzbox 10 rfl rfl ?_
      simp only [go_sem]
      refine hM9 ⟨(a', out), h1, h2, h3'⟩ _ ?_
      (refine cov_of ?_ ?_ <;> simp [go_sem])
    ·obtain ⟨⟨a', out⟩, h1, h2, h3'⟩ := x
     simp only at h1 h2 h3'
     have hvz : ∀ v ∈ vs ++ [(num, out)], SzV v := fun v hv => by
      rcases List.mem_append.1 hv with h | h
      ·have := (vuV_parts hvu).2 v h
       exact ⟨by have := readV_len this.1; omega, nuV_sz this.2 (by decide)⟩
      ·simp at h; subst h; exact ⟨by show num.length ≤ _; omega, nuV_sz h2 (by decide)⟩
     have VS := versions_spec (vs ++ [(num, out)]) (by simp; omega) hvz
     rw [show dVrs (vs ++ [(num, out)]) = D.sl 2 (vs.map cVr ++ [[dS num, dPs out]]) by simp [go_sem]] at VS
     generalize hnb : vuV (vs ++ [(num, out)]) = nb at *
     (refine awp_sr fun Y Yh => ?_; simp [go_sem]; ((repeat' (first|(refine ag_x ?_;simp [go_sem])|intro _|apply And.intro|(apply Yh;clear Yh Y)));all_goals first|apply Hold.mk|omega|assumption|skip))
     (refine awp_sr fun Y Yh => ?_; simp [go_sem]; ((repeat' (first|(refine ag_x ?_;simp [go_sem])|intro _|apply And.intro|(apply Yh;clear Yh Y)));all_goals first|apply Hold.mk|omega|assumption|skip))
     ((try refine CallT.toA ?_); refine callT_f (.inl ⟨rfl,rfl⟩) ?_; intro args ha; simp [go_sem] at ha; subst ha; refine ⟨_, VS, ?_⟩; rintro _ rfl; refine ⟨rfl, ?_⟩; simp [go_sem]; ((repeat' (first|(refine ag_x ?_;simp [go_sem])|intro _|apply And.intro|(apply Yh;clear Yh Y)));all_goals first|apply Hold.mk|omega|assumption|skip))
     rename_i gq1 gq2
     cases nb with
     | true =>
      (refine awp_if fun T F hT hF => ?_; simp [go_sem]; refine hF ?_; clear hT hF T F)
      refine awp_skip ?_
      refine hK8 _ ?_
      refine hM8 ⟨(a', vs ++ [(num, out)], gq2), h1, hnb, by simp; omega⟩ _ ?_
      (refine cov_of ?_ ?_ <;> simp [go_sem])
     | false =>
      have hl1 : ((vs.length : Int) + 1 - 1).toNat = vs.length := by omega
      have hl2 : (vs.length : Int) + 1 - 1 = vs.length := by omega
      (refine awp_if fun T F hT hF => ?_; simp [go_sem]; refine hT ?_; clear hT hF T F)
      (refine awp_r fun Y Yh => ?_; simp [go_sem, hl1, hl2]; ((repeat' (first|(refine ag_x ?_;simp [go_sem, hl1, hl2])|intro _|apply And.intro|(apply Yh;clear Yh Y)));all_goals first|apply Hold.mk|omega|assumption|skip))
      rename_i gq3
      refine hK8 _ ?_
      refine hM8 ⟨(a', vs, gq3), h1, hvu, by simp only; omega⟩ _ ?_
      (refine cov_of ?_ ?_ <;> simp [go_sem])
   ·have hali : ¬ (a : Int) < l.length := by omega
    (refine awp_sr fun Y Yh => ?_; simp [go_sem, hq0, hqe, hal, hali]; ((repeat' (first|(refine ag_x ?_;simp [go_sem, hq0, hqe, hal, hali])|intro _|apply And.intro|(apply Yh;clear Yh Y)));all_goals first|apply Hold.mk|omega|assumption|skip))
    (refine awp_if fun T F hT hF => ?_; simp [go_sem, hq0, hqe, hal, hali]; refine hF ?_; clear hT hF T F)
    refine awp_exit ?_
    simp only [go_sem]
    refine tl5 _ ?_
    (refine cov_of ?_ ?_ <;> simp [go_sem])
 ·refine awp_exit ?_
  simp only [go_sem]
  refine hK1 _ ?_; clear hK1
  have hi5 : i = 5 := by omega
  subst hi5
  ((refine awp_dr (.qs [1] (.kq 0 (.one 2 (.one 3 (.qs [4] (.nil)))) 2 (.qs [0] (.one 3 (.qs [4] (.nil)))))) (by kernel_rfl) ?_ ?_ ?_ ?_); (kernel_rfl); (exact (by decide +kernel)); (kernel_rfl); intro Y Yh; ((repeat' (first|(refine ag_x ?_;simp [go_sem])|refine adr_nil ?_|refine adr_kq ?_ ?_|((first|refine adr_qs fun Y Yh=>?_|refine adr_y fun Y Yh=>?_);simp [go_sem])|intro _|apply And.intro|(apply Yh;clear Yh Y)));all_goals first|apply Hold.mk|omega|assumption|skip))
  all_goals
   (refine callA_l [900002] (.inl ⟨rfl,rfl⟩) (by simp [go_sem]) ?_; intro args ha; simp [go_sem] at ha; subst ha; refine ⟨_, _, (GN a 3 g4 ha (by decide)), (by simp [go_sem]), ?_⟩; rintro ps r hps ⟨a', w, h1, h2, h3', rfl, rfl⟩; simp [go_sem]; ((repeat' (first|(refine ag_x ?_;simp [go_sem])|refine adr_nil ?_|refine adr_kq ?_ ?_|((first|refine adr_qs fun Y Yh=>?_|refine adr_y fun Y Yh=>?_);simp [go_sem])|intro _|apply And.intro|(apply Yh;clear Yh Y)));all_goals first|apply Hold.mk|omega|assumption|skip))
   (refine awp_ret ?_; simp [go_sem])
   exact ⟨s, w, ⟨hsn, hsv, h2, h3'⟩, by simp⟩
end Go.Proofs.YteekfnhhlcmcgaaGreatDoor
namespace Go.Proofs.YteekfnhhlcmcgaaGreatDoor
open Go.Eng Go.Wh Go.Ver Go.Lk
set_option maxRecDepth 20000
attribute [local irreducible] AG CallA CallT AWp PCall ACall AgC
/-! Back of a source whose row of gems is the caller's own. -/
set_option maxHeartbeats 32000000 in
theorem BackA_spec (s : Src) (hs : SzS s) (gz : Nat) : ACall Tryz.prog 15 [.agg [.own 900011 gz]] [(900011, (gz, .row 46 2 (s.map cGm)))] [900011] fun ps r => ps = [(gz, .row 46 2 (s.map cGm))] ∧ r = dSrc s := by 
 refine acall_of Tryz.func15 rfl rfl Tryz.ntmps15 (rs := [.cell 2 32]) (tys := [32]) rfl rfl (by simp) (by simp [notFroz]) ?_
 obtain ⟨hs0, hs1⟩ := hs
 (refine awp_sr fun Y Yh => ?_; simp [go_sem]; ((repeat' (first|(refine ag_x ?_;simp [go_sem])|intro _|apply And.intro|(apply Yh;clear Yh Y)));all_goals first|apply Hold.mk|omega|assumption|skip))
 rename_i g1 g2
 (refine awp_sr fun Y Yh => ?_; simp [go_sem]; ((repeat' (first|(refine ag_x ?_;simp [go_sem])|intro _|apply And.intro|(apply Yh;clear Yh Y)));all_goals first|apply Hold.mk|omega|assumption|skip))
 rename_i g3
 refine awp_nilbox 900021 119 2 0 (sb := 3) rfl rfl (by decide) fun gr0 => ?_
 simp only [List.set, go_sem]
 refine awp_seq_k fun K1 hK1 => ?_
 (refine awp_sr fun Y Yh => ?_; simp [go_sem]; ((repeat' (first|(refine ag_x ?_;simp [go_sem])|intro _|apply And.intro|(apply Yh;clear Yh Y)));all_goals first|apply Hold.mk|omega|assumption|skip))
 refine awp_block ?_
 refine awp_loop (σ := Nat × Nat) (fun x => ⟨[(1, .ptr 1 g1 0), (2, .ptr 2 g2 0), (3, .ptr 3 g3 0), (4, dI x.1)], [(1, (g1, .box [.own 900011 gz])), (900011, (gz, .row 46 2 (s.map cGm))), (2, (g2, .box [.v (.slice none 0 0)])), (3, (g3, .box [.own 900021 x.2])), (900021, (x.2, .row 119 2 ((s.take x.1).map cGm)))]⟩) (fun x => x.1 ≤ s.length) (fun x => s.length - x.1) (0, gr0) ?_ ?_ ?_
 ·(refine cov_of ?_ ?_ <;> simp [go_sem])
 ·simp
 rintro ⟨i, gr⟩ hi
 simp only at hi
 refine awp_seq_k fun K2 hK2 => ?_
 (refine awp_sr fun Y Yh => ?_; simp [go_sem]; ((repeat' (first|(refine ag_x ?_;simp [go_sem])|intro _|apply And.intro|(apply Yh;clear Yh Y)));all_goals first|apply Hold.mk|omega|assumption|skip))
 (refine awp_if fun T F hT hF => ?_; simp [go_sem]; refine BR.intro (fun h3 => hT ?_) (fun h3 => hF ?_); all_goals clear hT hF T F; try simp at h3)
 ·refine awp_skip ?_
  refine hK2 _ ?_; clear hK2
  obtain ⟨x, hx⟩ : ∃ x, s[i]? = some x := ⟨_, List.getElem?_eq_getElem (by omega)⟩
  obtain ⟨hx0, hx1, hx2⟩ := hs1 x (List.mem_of_getElem? hx)
  have htk := map_take_snoc2 cGm hx
  refine awp_seq_k fun K4 hK4 => ?_
  refine awp_block ?_
  (refine awp_sr fun Y Yh => ?_; simp [go_sem, hx]; ((repeat' (first|(refine ag_x ?_;simp [go_sem, hx])|intro _|apply And.intro|(apply Yh;clear Yh Y)));all_goals first|apply Hold.mk|omega|assumption|skip))
  rename_i g5
  refine awp_nilbox 900022 116 2 1 (sb := 5) rfl rfl (by decide) fun gv0 => ?_
  simp only [List.set, go_sem]
  refine awp_seq_k fun K5 hK5 => ?_
  (refine awp_sr fun Y Yh => ?_; simp [go_sem]; ((repeat' (first|(refine ag_x ?_;simp [go_sem])|intro _|apply And.intro|(apply Yh;clear Yh Y)));all_goals first|apply Hold.mk|omega|assumption|skip))
  refine awp_block ?_
  refine awp_loop (σ := Nat × Nat) (fun y => ⟨[(1, .ptr 1 g1 0), (2, .ptr 2 g2 0), (3, .ptr 3 g3 0), (4, dI i), (5, .ptr 5 g5 0), (6, dI y.1)], [(1, (g1, .box [.own 900011 gz])), (900011, (gz, .row 46 2 (s.map cGm))), (2, (g2, .box [.v (.slice none 0 0)])), (3, (g3, .box [.own 900021 gr])), (900021, (gr, .row 119 2 ((s.take i).map cGm))), (5, (g5, .box [dS x.1, .own 900022 y.2])), (900022, (y.2, .row 116 2 ((x.2.take y.1).map cVr)))]⟩) (fun y => y.1 ≤ x.2.length) (fun y => x.2.length - y.1) (0, gv0) ?_ ?_ ?_
  ·(refine cov_of ?_ ?_ <;> simp [go_sem])
  ·simp
  rintro ⟨k, gv⟩ hk
  simp only at hk
  refine awp_seq_k fun K6 hK6 => ?_
  (refine awp_sr fun Y Yh => ?_; simp [go_sem, hx]; ((repeat' (first|(refine ag_x ?_;simp [go_sem, hx])|intro _|apply And.intro|(apply Yh;clear Yh Y)));all_goals first|apply Hold.mk|omega|assumption|skip))
  (refine awp_if fun T F hT hF => ?_; simp [go_sem]; refine BR.intro (fun h7 => hT ?_) (fun h7 => hF ?_); all_goals clear hT hF T F; try simp at h7)
  ·refine awp_skip ?_
   refine hK6 _ ?_; clear hK6
   obtain ⟨v, hv⟩ : ∃ v, x.2[k]? = some v := ⟨_, List.getElem?_eq_getElem (by omega)⟩
   obtain ⟨hv0, hv1⟩ := hx2 v (List.mem_of_getElem? hv)
   have htv := map_take_snoc2 cVr hv
   have B := back12_spec v.2 hv1.1
   refine awp_seq_k fun K8 hK8 => ?_
   refine awp_block ?_
   (refine awp_sr fun Y Yh => ?_; simp [go_sem, hx, hv]; ((repeat' (first|(refine ag_x ?_;simp [go_sem, hx, hv])|intro _|apply And.intro|(apply Yh;clear Yh Y)));all_goals first|apply Hold.mk|omega|assumption|skip))
   ((refine awp_d (.qs [0, 2, 4, 1, 3, 5] (.kp 6 (.qs [7] (.kp 8 (.one 9 (.qs [10] (.one 11 (.nil)))))))) (by kernel_rfl) ?_ ?_ ?_ ?_); (kernel_rfl); (exact (by decide +kernel)); (kernel_rfl); intro Y Yh; ((repeat' (first|(refine ag_x ?_;simp [go_sem])|refine adr_nil ?_|((first|refine adr_qs fun Y Yh=>?_|refine adr_y fun Y Yh=>?_);simp [go_sem])|intro _|apply And.intro|(apply Yh;clear Yh Y)));all_goals first|apply Hold.mk|omega|assumption|skip))
   ((try refine CallT.toA ?_); refine callT_m (.inl ⟨rfl,rfl⟩) (by simp [go_sem]) ?_; intro args ha; simp [go_sem] at ha; subst ha; refine ⟨_, B, ?_⟩; rintro _ rfl; simp [go_sem]; ((repeat' (first|(refine ag_x ?_;simp [go_sem])|refine adr_nil ?_|((first|refine adr_qs fun Y Yh=>?_|refine adr_y fun Y Yh=>?_);simp [go_sem])|intro _|apply And.intro|(apply Yh;clear Yh Y)));all_goals first|apply Hold.mk|omega|assumption|skip))
   refine hK8 _ ?_; clear hK8
   rename_i gq gv'
   (refine awp_r fun Y Yh => ?_; simp [go_sem]; ((repeat' (first|(refine ag_x ?_;simp [go_sem])|intro _|apply And.intro|(apply Yh;clear Yh Y)));all_goals first|apply Hold.mk|omega|assumption|skip))
   refine ⟨(k + 1, gv'), ?_, by simp only; omega, by simp only; omega⟩
   simp only [htv]
   (refine cov_of ?_ ?_ <;> simp [go_sem])
  ·refine awp_exit ?_
   simp only [go_sem]
   refine hK5 _ ?_; clear hK5
   have : k = x.2.length := by omega
   subst this
   refine awp_frzin 900022 5 1 rfl rfl (by decide) rfl ?_
   simp only [go_sem, List.set]
   (refine awp_r fun Y Yh => ?_; simp [go_sem]; ((repeat' (first|(refine ag_x ?_;simp [go_sem])|intro _|apply And.intro|(apply Yh;clear Yh Y)));all_goals first|apply Hold.mk|omega|assumption|skip))
   rename_i gq gr'
   refine hK4 _ ?_; clear hK4
   (refine awp_r fun Y Yh => ?_; simp [go_sem]; ((repeat' (first|(refine ag_x ?_;simp [go_sem])|intro _|apply And.intro|(apply Yh;clear Yh Y)));all_goals first|apply Hold.mk|omega|assumption|skip))
   refine ⟨(i + 1, gr'), ?_, by simp only; omega, by simp only; omega⟩
   simp only [htk]
   (refine cov_of ?_ ?_ <;> simp [go_sem, take_map_len2])
 ·refine awp_exit ?_
  simp only [go_sem]
  refine hK1 _ ?_; clear hK1
  have : i = s.length := by omega
  subst this
  refine awp_frzin 900021 3 0 rfl rfl (by decide) rfl ?_
  simp only [go_sem, List.set]
  (refine awp_sr fun Y Yh => ?_; simp [go_sem]; ((repeat' (first|(refine ag_x ?_;simp [go_sem])|intro _|apply And.intro|(apply Yh;clear Yh Y)));all_goals first|apply Hold.mk|omega|assumption|skip))
  (refine awp_ret ?_; simp [go_sem, take_map_len2])
end Go.Proofs.YteekfnhhlcmcgaaGreatDoor
namespace Go.Lk
open Go.Eng Go.Wh Go.Ver
/-! ResolveFirst: the number that was taken for a gem, and the source as it is turned gem by gem -/
def nmbV (l : List Prs) (gem : Bs) : Bs := l.foldl (fun a p => if p.1 = gem then p.2 else a) []
theorem nmbV_snoc {l : List Prs} {gem : Bs} {i : Nat} {p : Prs} (h : l[i]? = some p) : nmbV (l.take (i + 1)) gem = if p.1 = gem then p.2 else nmbV (l.take i) gem := by
 unfold nmbV
 rw [List.take_add_one, h]; simp
theorem nmbV_none {l : List Prs} {gem b : Bs} (h : ∀ p ∈ l, p.1 ≠ gem) : l.foldl (fun a p => if p.1 = gem then p.2 else a) b = b := by
 induction l generalizing b with
 | nil => rfl
 | cons x l ih =>
  rw [List.foldl_cons, if_neg (h x (by simp))]
  exact ih fun p hp => h p (by simp [hp])
theorem nmbV_of {l : List Prs} {gem num b : Bs} (ha : Asc l) (hm : (gem, num) ∈ l) : l.foldl (fun a p => if p.1 = gem then p.2 else a) b = num := by
 induction l generalizing b with
 | nil => cases hm
 | cons x l ih =>
  obtain ⟨h1, h2⟩ := List.pairwise_cons.1 ha
  rw [List.foldl_cons]
  rcases List.mem_cons.1 hm with rfl | hm
  ·rw [if_pos rfl]
   refine nmbV_none fun p hp e => ?_
   have := h1 p hp
   simp only [e] at this
   rw [bl_irr] at this; cases this
  ·exact ih h2 hm
def nxV (f : Gm → Gm) (s : Src) (i : Nat) : Src := (s.take i).map f ++ s.drop i
theorem nxV_zero (f : Gm → Gm) (s : Src) : nxV f s 0 = s := by simp [nxV]
theorem nxV_all (f : Gm → Gm) (s : Src) : nxV f s s.length = s.map f := by simp [nxV]
theorem nxV_len (f : Gm → Gm) (s : Src) (i : Nat) : (nxV f s i).length = s.length := by simp [nxV]; omega
theorem nxV_at {f : Gm → Gm} {s : Src} {i : Nat} (h : i < s.length) : (nxV f s i)[i]? = s[i]? := by
 unfold nxV
 rw [List.getElem?_append_right (by simp; omega)]
 have : i - ((s.take i).map f).length = 0 := by simp; omega
 rw [this, List.getElem?_drop]; rfl
theorem nxV_step {f : Gm → Gm} {s : Src} {i : Nat} {x : Gm} (h : s[i]? = some x) : (nxV f s i).set i (f x) = nxV f s (i + 1) := by
 have hi : i < s.length := (List.getElem?_eq_some_iff.1 h).1
 have hd : s.drop i = x :: s.drop (i + 1) := by rw [List.drop_eq_getElem_cons hi, (List.getElem?_eq_some_iff.1 h).2]
 have hl : ((s.take i).map f).length = i := by simp; omega
 unfold nxV
 rw [hd, List.take_add_one, h, List.set_append_right _ _ (by rw [hl]; omega), hl]
 simp
theorem nxV_same {f : Gm → Gm} {s : Src} {i : Nat} {x : Gm} (h : s[i]? = some x) (he : f x = x) : nxV f s (i + 1) = nxV f s i := by
 have ha := nxV_at (f := f) (List.getElem?_eq_some_iff.1 h).1
 rw [h] at ha
 obtain ⟨hl, hx⟩ := List.getElem?_eq_some_iff.1 ha
 rw [← nxV_step h, he, ← hx, List.set_getElem_self]
end Go.Lk
namespace Go.Proofs.YteekfnhhlcmcgaaGreatDoor
open Go.Eng Go.Wh Go.Ver Go.Lk
set_option maxRecDepth 20000
attribute [local irreducible] AG CallA CallT AWp PCall ACall AgC
theorem abv_chk {s : Src} {w : List Prs} (hc : chkV s w = true) (gem num : Bs) : chkV (abvS s gem num) w = true := by
 unfold chkV at hc ⊢
 rw [Bool.and_eq_true] at hc
 rw [abv_su hc.1, hc.2]; rfl
theorem first_of {s : Src} {w : List Prs} {n : Prs} {b : Int} (hn : w[0]? = some n) (h0 : (solV s w b).2.2 = 0) :
  ∃ num, num ≠ [] ∧ (n.1, num) ∈ (solV s w b).1 ∧ (solV (abvS s n.1 num) w b).2.2 ≠ 0 := by
 cases w with
 | nil => simp at hn
 | cons m w => simp at hn; subst hn; exact first_law h0
theorem flt_snoc {l : List Vrs} {k : Nat} {v : Vrs} (p : Vrs → Bool) (h : l[k]? = some v) : (l.take (k + 1)).filter p = (l.take k).filter p ++ (if p v then [v] else []) := by
 rw [List.take_add_one, h, List.filter_append]
 cases hp : p v <;> simp [hp]
set_option maxHeartbeats 64000000 in
theorem resolveFirst_spec (a : List Int) (ha : a.length ≤ 9223372036854775807) : PCall Tryz.prog 3 [dIs a] fun r => r = dB true := by 
 refine pcall_of Tryz.func3 rfl rfl Tryz.ntmps3 (rs := [.tmp 2]) (tys := [4]) rfl rfl (by simp) ?_
 have G := rGrownA_spec a ha
 (refine awp_sr fun Y Yh => ?_; simp [go_sem]; ((repeat' (first|(refine ag_x ?_;simp [go_sem])|intro _|apply And.intro|(apply Yh;clear Yh Y)));all_goals first|apply Hold.mk|omega|assumption|skip))
 (refine awp_sr fun Y Yh => ?_; simp [go_sem]; ((repeat' (first|(refine ag_x ?_;simp [go_sem])|intro _|apply And.intro|(apply Yh;clear Yh Y)));all_goals first|apply Hold.mk|omega|assumption|skip))
 (refine callA_l [900011] (.inl ⟨rfl,rfl⟩) (by simp [go_sem]) ?_; intro args ha; simp [go_sem] at ha; subst ha; refine ⟨_, _, G, (by simp [go_sem]), ?_⟩; rintro ps r hps ⟨s, w, gz, hG, rfl, rfl⟩; simp [go_sem]; ((repeat' (first|(refine ag_x ?_;simp [go_sem])|intro _|apply And.intro|(apply Yh;clear Yh Y)));all_goals first|apply Hold.mk|omega|assumption|skip))
 have hc := grOk_chk hG
 have hsu := grOk_su hG
 have hs := suV_sz hsu
 have hw := grOk_wz hG
 rename_i g3
 refine awp_seq_k fun K0 hK0 => ?_
 by_cases hw0 : w = []
 ·(refine awp_sr fun Y Yh => ?_; simp [go_sem, hw0]; ((repeat' (first|(refine ag_x ?_;simp [go_sem, hw0])|intro _|apply And.intro|(apply Yh;clear Yh Y)));all_goals first|apply Hold.mk|omega|assumption|skip))
  (refine awp_if fun T F hT hF => ?_; simp [go_sem, hw0]; refine hT ?_; clear hT hF T F)
  (refine awp_sr fun Y Yh => ?_; simp [go_sem]; ((repeat' (first|(refine ag_x ?_;simp [go_sem])|intro _|apply And.intro|(apply Yh;clear Yh Y)));all_goals first|apply Hold.mk|omega|assumption|skip))
  ((try refine CallT.toA ?_); refine callT_m (.inl ⟨rfl,rfl⟩) (by simp [go_sem]) ?_; intro args ha; simp [go_sem] at ha; subst ha; refine ⟨_, sane12_spec, ?_⟩; rintro _ rfl; simp [go_sem]; ((repeat' (first|(refine ag_x ?_;simp [go_sem])|intro _|apply And.intro|(apply Yh;clear Yh Y)));all_goals first|apply Hold.mk|omega|assumption|skip))
  (refine awp_ret ?_; simp [go_sem])
 have hwp : 0 < w.length := List.length_pos_iff.2 hw0
 obtain ⟨n, hn⟩ : ∃ n, w[0]? = some n := ⟨_, List.getElem?_eq_getElem hwp⟩
 (refine awp_sr fun Y Yh => ?_; simp [go_sem, hw0]; ((repeat' (first|(refine ag_x ?_;simp [go_sem, hw0])|intro _|apply And.intro|(apply Yh;clear Yh Y)));all_goals first|apply Hold.mk|omega|assumption|skip))
 (refine awp_if fun T F hT hF => ?_; simp [go_sem, hw0]; refine hF ?_; clear hT hF T F)
 refine awp_skip ?_
 refine hK0 _ ?_; clear hK0
 (refine awp_sr fun Y Yh => ?_; simp [go_sem]; ((repeat' (first|(refine ag_x ?_;simp [go_sem])|intro _|apply And.intro|(apply Yh;clear Yh Y)));all_goals first|apply Hold.mk|omega|assumption|skip))
 refine callA_e [900011] (.inl ⟨rfl, rfl⟩) ?_
 intro args ha; simp [go_sem] at ha; subst ha
 refine ⟨_, _, BackA_spec s hs gz, (by simp [go_sem]), ?_⟩
 rintro ps r hps ⟨rfl, rfl⟩
 simp [go_sem]
 ((repeat' (first|(refine ag_x ?_;simp [go_sem])|refine adr_nil ?_|refine adr_two ?_ ?_|refine adr_kq ?_ ?_|refine adr_three ?_ ?_ ?_|refine adr_four ?_ ?_ ?_ ?_|refine adr_kp2 ?_ ?_|refine adr_kp3 ?_ ?_ ?_|((first|refine adr_qs fun Y Yh=>?_|refine adr_y fun Y Yh=>?_);simp [go_sem])|intro _|apply And.intro|(apply Yh;clear Yh Y)));all_goals first|apply Hold.mk|omega|assumption|skip)
 refine awp_frzbox 5 rfl rfl ?_
 simp only [go_sem]
 have S1 := Solve_spec s w 2000 hs hw (by constructor <;> decide)
 have hcd := (solV_codes (s := s) (w := w) (b := 2000) hc (by decide) (by decide)).1
 have hfl := @first_of s w n 2000 hn
 have hasc := solV_asc (w := w) (b := 2000) hsu
 have hqok := solV_ok (w := w) (b := 2000) hsu
 have hqlen := @solV_len s w 2000
 generalize solV s w 2000 = q at S1 hcd hfl hasc hqok hqlen
 obtain ⟨ql, qn, qe⟩ := q
 simp only at S1 hcd hfl hasc hqok hqlen
 ((refine awp_dr (.qs [1, 0] (.kp 2 (.kp 3 (.qs [4, 5, 6, 7, 8] (.nil))))) (by kernel_rfl) ?_ ?_ ?_ ?_); (kernel_rfl); (exact (by decide +kernel)); (kernel_rfl); intro Y Yh; ((repeat' (first|(refine ag_x ?_;simp [go_sem])|refine adr_nil ?_|((first|refine adr_qs fun Y Yh=>?_|refine adr_y fun Y Yh=>?_);simp [go_sem])|intro _|apply And.intro|(apply Yh;clear Yh Y)));all_goals first|apply Hold.mk|omega|assumption|skip))
 ((try refine CallT.toA ?_); refine callT_m (.inl ⟨rfl,rfl⟩) (by simp [go_sem]) ?_; intro args ha; simp [go_sem] at ha; subst ha; refine ⟨_, (back12_spec w hw.1), ?_⟩; rintro _ rfl; simp [go_sem]; ((repeat' (first|(refine ag_x ?_;simp [go_sem])|refine adr_nil ?_|((first|refine adr_qs fun Y Yh=>?_|refine adr_y fun Y Yh=>?_);simp [go_sem])|intro _|apply And.intro|(apply Yh;clear Yh Y)));all_goals first|apply Hold.mk|omega|assumption|skip))
 ((try refine CallT.toA ?_); refine callT_m (.inl ⟨rfl,rfl⟩) (by simp [go_sem]) ?_; intro args ha; simp [go_sem] at ha; subst ha; refine ⟨_, S1, ?_⟩; rintro _ rfl; simp [go_sem]; ((repeat' (first|(refine ag_x ?_;simp [go_sem])|refine adr_nil ?_|((first|refine adr_qs fun Y Yh=>?_|refine adr_y fun Y Yh=>?_);simp [go_sem])|intro _|apply And.intro|(apply Yh;clear Yh Y)));all_goals first|apply Hold.mk|omega|assumption|skip))
 refine awp_seq_k fun K1 hK1 => ?_
 (refine awp_sr fun Y Yh => ?_; simp [go_sem]; ((repeat' (first|(refine ag_x ?_;simp [go_sem])|intro _|apply And.intro|(apply Yh;clear Yh Y)));all_goals first|apply Hold.mk|omega|assumption|skip))
 by_cases h0 : qe = 0
 rotate_left
 ·(refine awp_if fun T F hT hF => ?_; simp [go_sem, h0]; refine hT ?_; clear hT hF T F)
  (refine awp_sr fun Y Yh => ?_; simp [go_sem]; ((repeat' (first|(refine ag_x ?_;simp [go_sem])|intro _|apply And.intro|(apply Yh;clear Yh Y)));all_goals first|apply Hold.mk|omega|assumption|skip))
  ((try refine CallT.toA ?_); refine callT_m (.inl ⟨rfl,rfl⟩) (by simp [go_sem]) ?_; intro args ha; simp [go_sem] at ha; subst ha; refine ⟨_, sane12_spec, ?_⟩; rintro _ rfl; simp [go_sem]; ((repeat' (first|(refine ag_x ?_;simp [go_sem])|intro _|apply And.intro|(apply Yh;clear Yh Y)));all_goals first|apply Hold.mk|omega|assumption|skip))
  (refine awp_ret ?_; simp [go_sem])
 subst h0
 (refine awp_if fun T F hT hF => ?_; simp [go_sem]; refine hF ?_; clear hT hF T F)
 refine awp_skip ?_
 refine hK1 _ ?_; clear hK1
 obtain ⟨num, hnum, hmem, hne⟩ := hfl rfl
 have hnv : nmbV ql n.1 = num := nmbV_of hasc hmem
 have hnz : num.length ≤ 1000000 := by have := readV_len (hqok _ hmem).2; simp only at this; omega
 (refine awp_sr fun Y Yh => ?_; simp [go_sem]; ((repeat' (first|(refine ag_x ?_;simp [go_sem])|intro _|apply And.intro|(apply Yh;clear Yh Y)));all_goals first|apply Hold.mk|omega|assumption|skip))
 refine awp_seq_k fun K2 hK2 => ?_
 (refine awp_sr fun Y Yh => ?_; simp [go_sem]; ((repeat' (first|(refine ag_x ?_;simp [go_sem])|intro _|apply And.intro|(apply Yh;clear Yh Y)));all_goals first|apply Hold.mk|omega|assumption|skip))
 refine awp_block ?_
 refine awp_loop (σ := Nat) (fun i => ⟨[(3, .ptr 3 g3 0), (4, dPs w), (6, dPs ql), (8, dS (nmbV (ql.take i) n.1)), (9, dI i)], [(3, (g3, .box [.own 900011 gz])), (900011, (gz, .row 46 2 (s.map cGm)))]⟩) (fun i => i ≤ ql.length) (fun i => ql.length - i) 0 ?_ ?_ ?_
 ·(refine cov_of ?_ ?_ <;> simp [go_sem, nmbV])
 ·simp
 intro i hi
 refine awp_seq_k fun K4 hK4 => ?_
 (refine awp_sr fun Y Yh => ?_; simp [go_sem]; ((repeat' (first|(refine ag_x ?_;simp [go_sem])|intro _|apply And.intro|(apply Yh;clear Yh Y)));all_goals first|apply Hold.mk|omega|assumption|skip))
 (refine awp_if fun T F hT hF => ?_; simp [go_sem]; refine BR.intro (fun h4 => hT ?_) (fun h4 => hF ?_); all_goals clear hT hF T F; try simp at h4)
 ·refine awp_skip ?_
  refine hK4 _ ?_; clear hK4
  obtain ⟨x, hx⟩ : ∃ x, ql[i]? = some x := ⟨_, List.getElem?_eq_getElem (by omega)⟩
  have hst := nmbV_snoc (gem := n.1) hx
  refine awp_seq_k fun K6 hK6 => ?_
  have tl6 : ∀ S', Cov S' ⟨[(3, .ptr 3 g3 0), (4, dPs w), (6, dPs ql), (8, dS (nmbV (ql.take (i + 1)) n.1)), (9, dI i)], [(3, (g3, .box [.own 900011 gz])), (900011, (gz, .row 46 2 (s.map cGm)))]⟩ → K6 S' := fun S' hS => by
   refine hK6 _ ?_; clear hK6
   refine awp_cov hS ?_; clear hS
   (refine awp_r fun Y Yh => ?_; simp [go_sem]; ((repeat' (first|(refine ag_x ?_;simp [go_sem])|intro _|apply And.intro|(apply Yh;clear Yh Y)));all_goals first|apply Hold.mk|omega|assumption|skip))
   refine ⟨i + 1, ?_, by omega, by omega⟩
   (refine cov_of ?_ ?_ <;> simp [go_sem])
  clear hK6
  refine awp_block ?_
  ((refine awp_dr (.qs [0, 1, 2, 3, 5, 6, 7, 4, 8, 9] (.nil)) (by kernel_rfl) ?_ ?_ ?_ ?_); (kernel_rfl); (exact (by decide +kernel)); (kernel_rfl); intro Y Yh; ((repeat' (first|(refine ag_x ?_;simp [go_sem, hx, hn])|refine adr_nil ?_|((first|refine adr_qs fun Y Yh=>?_|refine adr_y fun Y Yh=>?_);simp [go_sem, hx, hn])|intro _|apply And.intro|(apply Yh;clear Yh Y)));all_goals first|apply Hold.mk|omega|assumption|skip))
  (refine awp_if fun T F hT hF => ?_; simp [go_sem]; refine BR.intro (fun h6 => hT ?_) (fun h6 => hF ?_); all_goals clear hT hF T F; try simp at h6)
  ·(refine awp_r fun Y Yh => ?_; simp [go_sem, hx]; ((repeat' (first|(refine ag_x ?_;simp [go_sem, hx])|intro _|apply And.intro|(apply Yh;clear Yh Y)));all_goals first|apply Hold.mk|omega|assumption|skip))
   refine tl6 _ ?_
   rw [hst, if_pos h6]
   (refine cov_of ?_ ?_ <;> simp [go_sem])
  ·refine awp_skip ?_
   refine tl6 _ ?_
   rw [hst, if_neg h6]
   (refine cov_of ?_ ?_ <;> simp [go_sem])
 refine awp_exit ?_
 simp only [go_sem]
 refine hK2 _ ?_; clear hK2
 have hie : i = ql.length := by omega
 subst hie
 rw [List.take_length, hnv]
 refine awp_seq_k fun K5 hK5 => ?_
 (refine awp_sr fun Y Yh => ?_; simp [go_sem]; ((repeat' (first|(refine ag_x ?_;simp [go_sem])|intro _|apply And.intro|(apply Yh;clear Yh Y)));all_goals first|apply Hold.mk|omega|assumption|skip))
 have hnie : num.isEmpty = false := by cases num with | nil => exact absurd rfl hnum | cons _ _ => rfl
 (refine awp_if fun T F hT hF => ?_; simp [go_sem, hnie]; refine hF ?_; clear hT hF T F)
 refine awp_skip ?_
 refine hK5 _ ?_; clear hK5
 have hfa : ∀ x : Gm, x.1 = n.1 → abvG n.1 num x = (x.1, x.2.filter fun v => decide (0 < compareP v.1 num)) := fun x hx => by unfold abvG; rw [if_pos hx]
 have hfb : ∀ x : Gm, x.1 ≠ n.1 → abvG n.1 num x = x := fun x hx => by unfold abvG; rw [if_neg hx]
 have hrow0 : nxV (abvG n.1 num) s 0 = s := nxV_zero _ s
 have hrowN : nxV (abvG n.1 num) s s.length = abvS s n.1 num := nxV_all _ s
 generalize hfd : abvG n.1 num = f at *
 refine awp_seq_k fun K7 hK7 => ?_
 (refine awp_sr fun Y Yh => ?_; simp [go_sem]; ((repeat' (first|(refine ag_x ?_;simp [go_sem])|intro _|apply And.intro|(apply Yh;clear Yh Y)));all_goals first|apply Hold.mk|omega|assumption|skip))
 refine awp_block ?_
 refine awp_loop (σ := Nat) (fun i => ⟨[(3, .ptr 3 g3 0), (4, dPs w), (8, dS num), (10, dI i)], [(3, (g3, .box [.own 900011 gz])), (900011, (gz, .row 46 2 ((nxV f s i).map cGm)))]⟩) (fun i => i ≤ s.length) (fun i => s.length - i) 0 ?_ ?_ ?_
 ·(refine cov_of ?_ ?_ <;> simp [go_sem, hrow0])
 ·simp
 intro i hi
 refine awp_seq_k fun K8 hK8 => ?_
 have hnl := nxV_len f s i
 have hsl := hs.1
 (refine awp_sr fun Y Yh => ?_; simp [go_sem, hnl]; ((repeat' (first|(refine ag_x ?_;simp [go_sem, hnl])|intro _|apply And.intro|(apply Yh;clear Yh Y)));all_goals first|apply Hold.mk|omega|assumption|skip))
 (refine awp_if fun T F hT hF => ?_; simp [go_sem]; refine BR.intro (fun h8 => hT ?_) (fun h8 => hF ?_); all_goals clear hT hF T F; try simp at h8)
 ·refine awp_skip ?_
  refine hK8 _ ?_; clear hK8
  have hil : i < s.length := by omega
  obtain ⟨x, hx⟩ : ∃ x, s[i]? = some x := ⟨_, List.getElem?_eq_getElem hil⟩
  have hnx := nxV_at (f := f) hil
  rw [hx] at hnx
  have hstp := nxV_step (f := f) hx
  have hsm := fun he => nxV_same (f := f) hx he
  obtain ⟨hx0, hx1, hx2⟩ := hs.2 x (List.mem_of_getElem? hx)
  have hfa := hfa x
  have hfb := hfb x
  refine awp_seq_k fun K9 hK9 => ?_
  have tl9 : ∀ S', Cov S' ⟨[(3, .ptr 3 g3 0), (4, dPs w), (8, dS num), (10, dI i)], [(3, (g3, .box [.own 900011 gz])), (900011, (gz, .row 46 2 ((nxV f s (i + 1)).map cGm)))]⟩ → K9 S' := fun S' hS => by
   refine hK9 _ ?_; clear hK9
   refine awp_cov hS ?_; clear hS
   (refine awp_r fun Y Yh => ?_; simp [go_sem]; ((repeat' (first|(refine ag_x ?_;simp [go_sem])|intro _|apply And.intro|(apply Yh;clear Yh Y)));all_goals first|apply Hold.mk|omega|assumption|skip))
   refine ⟨i + 1, ?_, by omega, by omega⟩
   (refine cov_of ?_ ?_ <;> simp [go_sem])
  clear hK9
  refine awp_block ?_
  refine awp_seq_k fun K10 hK10 => ?_
  generalize nxV f s i = Z at *
  ((refine awp_dr (.qs [0, 2, 6, 7, 8, 1, 3, 4, 5, 9, 10] (.nil)) (by kernel_rfl) ?_ ?_ ?_ ?_); (kernel_rfl); (exact (by decide +kernel)); (kernel_rfl); intro Y Yh; ((repeat' (first|(refine ag_x ?_;simp [go_sem, hnx, hn])|refine adr_nil ?_|((first|refine adr_qs fun Y Yh=>?_|refine adr_y fun Y Yh=>?_);simp [go_sem, hnx, hn])|intro _|apply And.intro|(apply Yh;clear Yh Y)));all_goals first|apply Hold.mk|omega|assumption|skip))
  by_cases he : x.1 = n.1
  rotate_left
  ·have heb : (x.1 == n.1) = false := by simpa using he
   (refine awp_if fun T F hT hF => ?_; simp [go_sem, heb]; refine hT ?_; clear hT hF T F)
   refine awp_exit ?_
   simp only [go_sem]
   refine tl9 _ ?_
   rw [hsm (hfb he)]
   (refine cov_of ?_ ?_ <;> simp [go_sem])
  (refine awp_if fun T F hT hF => ?_; simp [go_sem, he]; refine hF ?_; clear hT hF T F)
  refine awp_skip ?_
  refine hK10 _ ?_; clear hK10
  (refine awp_sr fun Y Yh => ?_; simp [go_sem]; ((repeat' (first|(refine ag_x ?_;simp [go_sem])|intro _|apply And.intro|(apply Yh;clear Yh Y)));all_goals first|apply Hold.mk|omega|assumption|skip))
  refine awp_nilslot 11 900012 48 2 rfl fun ga0 => ?_
  simp only [go_sem]
  refine awp_seq_k fun K11 hK11 => ?_
  (refine awp_sr fun Y Yh => ?_; simp [go_sem]; ((repeat' (first|(refine ag_x ?_;simp [go_sem])|intro _|apply And.intro|(apply Yh;clear Yh Y)));all_goals first|apply Hold.mk|omega|assumption|skip))
  refine awp_block ?_
  refine awp_loop (σ := Nat × Nat) (fun y => ⟨[(3, .ptr 3 g3 0), (4, dPs w), (8, dS num), (10, dI i), (11, .own 900012 y.2), (12, dI y.1)], [(3, (g3, .box [.own 900011 gz])), (900011, (gz, .row 46 2 (Z.map cGm))), (900012, (y.2, .row 48 2 (((x.2.take y.1).filter fun v => decide (0 < compareP v.1 num)).map cVr)))]⟩) (fun y => y.1 ≤ x.2.length) (fun y => x.2.length - y.1) (0, ga0) ?_ ?_ ?_
  ·(refine cov_of ?_ ?_ <;> simp [go_sem])
  ·simp
  rintro ⟨k, ga⟩ hk
  simp only at hk
  refine awp_seq_k fun K12 hK12 => ?_
  (refine awp_sr fun Y Yh => ?_; simp [go_sem, hnx]; ((repeat' (first|(refine ag_x ?_;simp [go_sem, hnx])|intro _|apply And.intro|(apply Yh;clear Yh Y)));all_goals first|apply Hold.mk|omega|assumption|skip))
  (refine awp_if fun T F hT hF => ?_; simp [go_sem]; refine BR.intro (fun h12 => hT ?_) (fun h12 => hF ?_); all_goals clear hT hF T F; try simp at h12)
  ·refine awp_skip ?_
   refine hK12 _ ?_; clear hK12
   obtain ⟨v, hv⟩ : ∃ v, x.2[k]? = some v := ⟨_, List.getElem?_eq_getElem (by omega)⟩
   obtain ⟨hv0, hv1⟩ := hx2 v (List.mem_of_getElem? hv)
   have hfs := flt_snoc (fun v => decide (0 < compareP v.1 num)) hv
   have A1 := above_spec v.1 num hv0 hnz
   refine awp_seq_k fun K13 hK13 => ?_
   have tl13 : ∀ S' g', Cov S' ⟨[(3, .ptr 3 g3 0), (4, dPs w), (8, dS num), (10, dI i), (11, .own 900012 g'), (12, dI k)], [(3, (g3, .box [.own 900011 gz])), (900011, (gz, .row 46 2 (Z.map cGm))), (900012, (g', .row 48 2 (((x.2.take (k + 1)).filter fun v => decide (0 < compareP v.1 num)).map cVr)))]⟩ → K13 S' := fun S' g' hS => by
    refine hK13 _ ?_; clear hK13
    refine awp_cov hS ?_; clear hS
    (refine awp_r fun Y Yh => ?_; simp [go_sem]; ((repeat' (first|(refine ag_x ?_;simp [go_sem])|intro _|apply And.intro|(apply Yh;clear Yh Y)));all_goals first|apply Hold.mk|omega|assumption|skip))
    refine ⟨(k + 1, g'), ?_, by simp only; omega, by simp only; omega⟩
    (refine cov_of ?_ ?_ <;> simp [go_sem])
   clear hK13
   have hFl : ((x.2.take k).filter fun v => decide (0 < compareP v.1 num)).length ≤ 1000000 := by
    have h1 := List.length_filter_le (fun v : Vrs => decide (0 < compareP v.1 num)) (x.2.take k)
    rw [List.length_take] at h1
    omega
   generalize (x.2.take k).filter (fun v => decide (0 < compareP v.1 num)) = F at *
   refine awp_block ?_
   (refine awp_sr fun Y Yh => ?_; simp [go_sem, hnx, hv]; ((repeat' (first|(refine ag_x ?_;simp [go_sem, hnx, hv])|intro _|apply And.intro|(apply Yh;clear Yh Y)));all_goals first|apply Hold.mk|omega|assumption|skip))
   (refine awp_sr fun Y Yh => ?_; simp [go_sem]; ((repeat' (first|(refine ag_x ?_;simp [go_sem])|intro _|apply And.intro|(apply Yh;clear Yh Y)));all_goals first|apply Hold.mk|omega|assumption|skip))
   ((try refine CallT.toA ?_); refine callT_m (.inl ⟨rfl,rfl⟩) (by simp [go_sem]) ?_; intro args ha; simp [go_sem] at ha; subst ha; refine ⟨_, A1, ?_⟩; rintro _ rfl; simp [go_sem]; ((repeat' (first|(refine ag_x ?_;simp [go_sem])|intro _|apply And.intro|(apply Yh;clear Yh Y)));all_goals first|apply Hold.mk|omega|assumption|skip))
   by_cases hgt : 0 < compareP v.1 num
   ·(refine awp_if fun T F hT hF => ?_; simp [go_sem, hgt]; refine hT ?_; clear hT hF T F)
    (refine awp_r fun Y Yh => ?_; simp [go_sem]; ((repeat' (first|(refine ag_x ?_;simp [go_sem])|intro _|apply And.intro|(apply Yh;clear Yh Y)));all_goals first|apply Hold.mk|omega|assumption|skip))
    rename_i gq ga'
    simp only [hgt, decide_true, if_true] at hfs
    refine tl13 _ ga' ?_
    rw [hfs]
    (refine cov_of ?_ ?_ <;> simp [go_sem])
   ·(refine awp_if fun T F hT hF => ?_; simp [go_sem, hgt]; refine hF ?_; clear hT hF T F)
    refine awp_skip ?_
    refine tl13 _ ga ?_
    simp only [hgt, decide_false, Bool.false_eq_true, if_false, List.append_nil] at hfs
    rw [hfs]
    (refine cov_of ?_ ?_ <;> simp [go_sem])
  ·refine awp_exit ?_
   simp only [go_sem]
   refine hK11 _ ?_; clear hK11
   have hke : k = x.2.length := by omega
   subst hke
   rw [List.take_length]
   refine awp_frzrow 11 rfl rfl ?_
   simp only [go_sem]
   (refine awp_r fun Y Yh => ?_; simp [go_sem, hnx]; ((repeat' (first|(refine ag_x ?_;simp [go_sem, hnx])|intro _|apply And.intro|(apply Yh;clear Yh Y)));all_goals first|apply Hold.mk|omega|assumption|skip))
   refine tl9 _ ?_
   rw [← hstp, hfa he, List.map_set]
   (refine cov_of ?_ ?_ <;> simp [go_sem])
 ·refine awp_exit ?_
  simp only [go_sem]
  refine hK7 _ ?_; clear hK7
  have hie : i = s.length := by omega
  subst hie
  rw [hrowN]
  have hs2 := suV_sz (abv_su hsu n.1 num)
  have hc2 := abv_chk hc n.1 num
  have S2 := Solve_spec (abvS s n.1 num) w 2000 hs2 hw (by constructor <;> decide)
  have hcd2 := (solV_codes (s := abvS s n.1 num) (w := w) (b := 2000) hc2 (by decide) (by decide)).1
  generalize abvS s n.1 num = s2 at *
  generalize solV s2 w 2000 = q at S2 hcd2 hne
  obtain ⟨ql2, qn2, qe2⟩ := q
  simp only at S2 hcd2 hne
  refine awp_frzin 900011 3 0 rfl rfl (by decide) rfl ?_
  simp only [go_sem, List.set]
  (refine awp_sr fun Y Yh => ?_; simp [go_sem]; ((repeat' (first|(refine ag_x ?_;simp [go_sem])|intro _|apply And.intro|(apply Yh;clear Yh Y)));all_goals first|apply Hold.mk|omega|assumption|skip))
  ((try refine CallT.toA ?_); refine callT_m (.inl ⟨rfl,rfl⟩) (by simp [go_sem]) ?_; intro args ha; simp [go_sem] at ha; subst ha; refine ⟨_, (Back_spec s2 hs2), ?_⟩; rintro _ rfl; simp [go_sem]; ((repeat' (first|(refine ag_x ?_;simp [go_sem])|intro _|apply And.intro|(apply Yh;clear Yh Y)));all_goals first|apply Hold.mk|omega|assumption|skip))
  ((try refine CallT.toA ?_); refine callT_m (.inl ⟨rfl,rfl⟩) (by simp [go_sem]) ?_; intro args ha; simp [go_sem] at ha; subst ha; refine ⟨_, (back12_spec w hw.1), ?_⟩; rintro _ rfl; simp [go_sem]; ((repeat' (first|(refine ag_x ?_;simp [go_sem])|intro _|apply And.intro|(apply Yh;clear Yh Y)));all_goals first|apply Hold.mk|omega|assumption|skip))
  ((try refine CallT.toA ?_); refine callT_m (.inl ⟨rfl,rfl⟩) (by simp [go_sem]) ?_; intro args ha; simp [go_sem] at ha; subst ha; refine ⟨_, S2, ?_⟩; rintro _ rfl; simp [go_sem]; ((repeat' (first|(refine ag_x ?_;simp [go_sem])|intro _|apply And.intro|(apply Yh;clear Yh Y)));all_goals first|apply Hold.mk|omega|assumption|skip))
  rcases hcd2 with h | h | h
  ·exact absurd h hne
  ·subst h
   (refine awp_sr fun Y Yh => ?_; simp [go_sem]; ((repeat' (first|(refine ag_false ?_ ?_ ?_;(focus (simp [go_sem, undef];done));(focus (simp [go_sem];done));simp [go_sem])|(refine ag_true ?_ ?_;(focus (simp [go_sem, undef];done));simp [go_sem])|(refine ag_x ?_;simp [go_sem, undef])|intro _|apply And.intro|(apply Yh;clear Yh Y)));all_goals first|apply Hold.mk|omega|assumption|skip))
   ((try refine CallT.toA ?_); refine callT_m (.inl ⟨rfl,rfl⟩) (by simp [go_sem]) ?_; intro args ha; simp [go_sem] at ha; subst ha; refine ⟨_, sane12_spec, ?_⟩; rintro _ rfl; simp [go_sem]; ((repeat' (first|(refine ag_false ?_ ?_ ?_;(focus (simp [go_sem, undef];done));(focus (simp [go_sem];done));simp [go_sem])|(refine ag_true ?_ ?_;(focus (simp [go_sem, undef];done));simp [go_sem])|(refine ag_x ?_;simp [go_sem, undef])|intro _|apply And.intro|(apply Yh;clear Yh Y)));all_goals first|apply Hold.mk|omega|assumption|skip))
   (refine awp_ret ?_; simp [go_sem])
  ·subst h
   (refine awp_sr fun Y Yh => ?_; simp [go_sem]; ((repeat' (first|(refine ag_false ?_ ?_ ?_;(focus (simp [go_sem, undef];done));(focus (simp [go_sem];done));simp [go_sem])|(refine ag_true ?_ ?_;(focus (simp [go_sem, undef];done));simp [go_sem])|(refine ag_x ?_;simp [go_sem, undef])|intro _|apply And.intro|(apply Yh;clear Yh Y)));all_goals first|apply Hold.mk|omega|assumption|skip))
   ((try refine CallT.toA ?_); refine callT_m (.inl ⟨rfl,rfl⟩) (by simp [go_sem]) ?_; intro args ha; simp [go_sem] at ha; subst ha; refine ⟨_, sane12_spec, ?_⟩; rintro _ rfl; simp [go_sem]; ((repeat' (first|(refine ag_false ?_ ?_ ?_;(focus (simp [go_sem, undef];done));(focus (simp [go_sem];done));simp [go_sem])|(refine ag_true ?_ ?_;(focus (simp [go_sem, undef];done));simp [go_sem])|(refine ag_x ?_;simp [go_sem, undef])|intro _|apply And.intro|(apply Yh;clear Yh Y)));all_goals first|apply Hold.mk|omega|assumption|skip))
   (refine awp_ret ?_; simp [go_sem])
end Go.Proofs.YteekfnhhlcmcgaaGreatDoor
