/- Part of a proof: see the last text. -/
import Derived.Test.YtjdccagkafnbfaaGreatDoorEA
import Derived.Laws.StructEq
import Derived.Maps.AppendAt
set_option linter.unusedVariables false
set_option linter.unusedSimpArgs false
namespace Go.Eng
variable {P : Program}

/-- all operands of a list -/
def evsK (c : Bool) (S : St) : List Operand → (List D → Prop) → Prop
  | [], k => k []
  | x :: xs, k => evK c S x fun d => evsK c S xs fun ds => k (d :: ds)

def optI (c : Bool) (S : St) (x : Option Operand) (k : Option Int → Prop) : Prop :=
  match x with
  | none => k none
  | some x => evK c S x fun d => match d with
    | .v (.int .i64 i) => k (some i)
    | _ => False

def loadK (P : Program) (S : St) (t : TypeId) (d : D) (k : D → Prop) : Prop :=
  match tyOf P t with
  | some (agg, sz) =>
    match cellsAt S d with
    | some cs => takeK agg sz cs k
    | none => False
  | none => False

def ptrLike : D → Bool
  | .rd _ | .ptr _ _ _ | .elt _ _ _ _ _ => true
  | .v (.pointer (some _)) => true
  | _ => false

def bothK (dx dy : D) (b : Bool) (k : D → Prop) : Prop :=
  match dx, dy with
  | .v (.bool p), .v (.bool q) => k (.v (.bool (bif b then p else q)))
  | .v (.bool p), _ => b = true ∧ k (.v (.bool p))
  | _, .v (.bool q) => b = false ∧ k (.v (.bool q))
  | _, _ => False

theorem eqIn_nil {t e : TypeId} (ht : P.underlying t = some (.slice e)) (d : Nat) (ao : Option Addr) (n cap : Nat) (w : World) : (Op.equalIn (d + 1) t (.slice ao n cap) (.slice none 0 0)).run P w = .ok ao.isNone w := by
  cases ao <;> simp [Op.equalIn, run_underlying ht]
theorem eqGuard_slice {op : BinOp} {t : TypeId} {x y : Operand} {ao : Option Addr} {n cap : Nat} : eqGuard op t x y (.slice ao n cap) (.slice none 0 0) = pure () := by
  unfold eqGuard
  split <;> rfl
theorem bin_nil {t e : TypeId} {x y : Operand} (ht : P.underlying t = some (.slice e)) (ao : Option Addr) (n cap : Nat) (w : World) :
    (do eqGuard .eql t x y (.slice ao n cap) (.slice none 0 0); binOp .eql t (.slice ao n cap) (.slice none 0 0) : Sem Value).run P w = .ok (.bool ao.isNone) w ∧
    (do eqGuard .neq t x y (.slice ao n cap) (.slice none 0 0); binOp .neq t (.slice ao n cap) (.slice none 0 0) : Sem Value).run P w = .ok (.bool !ao.isNone) w := by
  constructor
  · rw [eqGuard_slice]
    simp only [binOp, Op.equal, Op.maxDepth]
    simp [eqIn_nil ht 9999]
  · rw [eqGuard_slice]
    simp only [binOp, Op.equal, Op.maxDepth]
    simp [eqIn_nil ht 9999]
/-- a slice against nil: one that has elements is not nil -/
def nilCmpK (P : Program) (t : TypeId) (op : BinOp) (es : List (List D)) (dy : D) (k : D → Prop) : Prop :=
  match dy with
  | .v (.slice none 0 0) => (match P.underlying t with | some (.slice _) => True | _ => False) ∧ match op with
    | .eql => ∀ b : Bool, (es ≠ [] → b = false) → k (.v (.bool b))
    | .neq => ∀ b : Bool, (es ≠ [] → b = false) → k (.v (.bool !b))
    | _ => False
  | _ => False

/-! structs compared cell by cell -/
def eqDescL (P : Program) : List Field → Option (List (Nat × Nat))
  | [] => some []
  | f :: fs =>
    if f.name ≠ "_" then
      match P.underlying f.type with
      | some (.int _) => (eqDescL P fs).map ((f.offset, 0) :: ·)
      | some .bool => (eqDescL P fs).map ((f.offset, 1) :: ·)
      | some .string => (eqDescL P fs).map ((f.offset, 2) :: ·)
      | _ => none
    else none
def eqDesc (P : Program) (t : TypeId) : Option (List (Nat × Nat)) :=
  match P.underlying t with
  | some (.struct fs) => if P.stoodInHeld t = false ∧ P.eqGuardType P.depth t = false then eqDescL P fs.toList else none
  | _ => none
def eqCells : List (Nat × Nat) → List D → List D → Option Bool
  | [], _, _ => some true
  | (o, kd) :: r, as, bs =>
    match kd, as[o]?, bs[o]? with
    | 0, some (.v (.int k a)), some (.v (.int k' b)) => if k = k' then (eqCells r as bs).map (decide (a = b) && ·) else none
    | 1, some (.v (.bool a)), some (.v (.bool b)) => (eqCells r as bs).map ((a == b) && ·)
    | 2, some (.v (.string a)), some (.v (.string b)) => (eqCells r as bs).map ((a.data.toList == b.data.toList) && ·)
    | _, _, _ => none
def aggCmpK (P : Program) (t : TypeId) (op : BinOp) (as : List D) (dy : D) (k : D → Prop) : Prop :=
  match dy with
  | .agg bs => match eqDesc P t with
    | some l => match eqCells l as bs with
      | some b => match op with
        | .eql => k (.v (.bool b))
        | .neq => k (.v (.bool !b))
        | _ => False
      | none => False
    | none => False
  | _ => False

theorem eqCells_int {o : Nat} {r : List (Nat × Nat)} {as bs : List D} {b : Bool} (h : eqCells ((o, 0) :: r) as bs = some b) :
    ∃ k a c b', as[o]? = some (.v (.int k a)) ∧ bs[o]? = some (.v (.int k c)) ∧ eqCells r as bs = some b' ∧ b = ((a == c) && b') := by
  unfold eqCells at h
  split at h
  · rename_i k a k' c _ g1 g2
    split at h
    · rename_i hk
      subst hk
      obtain ⟨b', h4, h5⟩ := Option.map_eq_some_iff.1 h
      exact ⟨k, a, c, b', g1, g2, h4, by rw [← h5]; rfl⟩
    · cases h
  · rename_i h0 _ _; simp at h0
  · rename_i h0 _ _; simp at h0
  · cases h
theorem eqCells_bool {o : Nat} {r : List (Nat × Nat)} {as bs : List D} {b : Bool} (h : eqCells ((o, 1) :: r) as bs = some b) :
    ∃ a c b', as[o]? = some (.v (.bool a)) ∧ bs[o]? = some (.v (.bool c)) ∧ eqCells r as bs = some b' ∧ b = ((a == c) && b') := by
  unfold eqCells at h
  split at h
  · rename_i h0 _ _; simp at h0
  · rename_i a c _ g1 g2
    obtain ⟨b', h4, h5⟩ := Option.map_eq_some_iff.1 h
    exact ⟨a, c, b', g1, g2, h4, by rw [← h5]⟩
  · rename_i h0 _ _; simp at h0
  · cases h
theorem eqCells_str {o : Nat} {r : List (Nat × Nat)} {as bs : List D} {b : Bool} (h : eqCells ((o, 2) :: r) as bs = some b) :
    ∃ a c b', as[o]? = some (.v (.string a)) ∧ bs[o]? = some (.v (.string c)) ∧ eqCells r as bs = some b' ∧ b = ((a.data.toList == c.data.toList) && b') := by
  unfold eqCells at h
  split at h
  · rename_i h0 _ _; simp at h0
  · rename_i h0 _ _; simp at h0
  · rename_i a c _ g1 g2
    obtain ⟨b', h4, h5⟩ := Option.map_eq_some_iff.1 h
    exact ⟨a, c, b', g1, g2, h4, by rw [← h5]⟩
  · cases h
theorem eqFields_ok {w : World} {as bs : List D} {xs ys : Array Value} (d : Nat) (hx : ∀ (j : Nat) v, as[j]? = some (.v v) → xs[j]? = some v) (hy : ∀ (j : Nat) v, bs[j]? = some (.v v) → ys[j]? = some v) :
    ∀ (fs : List Field) (l : List (Nat × Nat)) (b : Bool), eqDescL P fs = some l → eqCells l as bs = some b → (Op.eqFields (d + 1) xs ys fs).run P w = .ok b w
  | [], l, b, h1, h2 => by
    simp [eqDescL] at h1
    subst h1
    simp [eqCells] at h2
    subst h2
    simp [Op.eqFields]
  | f :: fs, l, b, h1, h2 => by
    unfold eqDescL at h1
    split at h1
    · rename_i hn
      have step : ∀ (a c : Value) (e : Bool), (part f.type xs f.offset).run P w = .ok a w → (part f.type ys f.offset).run P w = .ok c w → (Op.equalIn (d + 1) f.type a c).run P w = .ok e w →
          ∀ r b', eqDescL P fs = some r → eqCells r as bs = some b' → b = (e && b') → (Op.eqFields (d + 1) xs ys (f :: fs)).run P w = .ok b w := by
        intro a c e p1 p2 p3 r b' h3 h4 hb
        have ih := eqFields_ok (w := w) d hx hy fs r b' h3 h4
        simp only [Op.eqFields, hn, ne_eq, not_false_eq_true, if_true, Sem.run_bind, p1, p2, p3, Result.andThen_ok]
        cases e with
        | false => simp [hb]
        | true => simp [hb, ih]
      split at h1
      · rename_i kd hu
        obtain ⟨r, h3, rfl⟩ := Option.map_eq_some_iff.1 h1
        obtain ⟨k, a, c, b', g1, g2, h4, h5⟩ := eqCells_int h2
        refine step (.int k a) (.int k c) (a == c) ?_ ?_ (run_equalIn_int w d _ _ _ _ _ hu) r b' h3 h4 h5
        · simp [part, isAgg, run_underlying hu, hx _ _ g1]
        · simp [part, isAgg, run_underlying hu, hy _ _ g2]
      · rename_i hu
        obtain ⟨r, h3, rfl⟩ := Option.map_eq_some_iff.1 h1
        obtain ⟨a, c, b', g1, g2, h4, h5⟩ := eqCells_bool h2
        refine step (.bool a) (.bool c) (a == c) ?_ ?_ (run_equalIn_bool' w d _ _ _ hu) r b' h3 h4 h5
        · simp [part, isAgg, run_underlying hu, hx _ _ g1]
        · simp [part, isAgg, run_underlying hu, hy _ _ g2]
      · rename_i hu
        obtain ⟨r, h3, rfl⟩ := Option.map_eq_some_iff.1 h1
        obtain ⟨a, c, b', g1, g2, h4, h5⟩ := eqCells_str h2
        refine step (.string a) (.string c) (a.data.toList == c.data.toList) ?_ ?_ ?_ r b' h3 h4 h5
        · simp [part, isAgg, run_underlying hu, hx _ _ g1]
        · simp [part, isAgg, run_underlying hu, hy _ _ g2]
        · rw [run_equalIn_string w d _ _ _ hu, ByteArray.toList_eq, ByteArray.toList_eq]
      · cases h1
    · cases h1
theorem aggCmp_run {t : TypeId} {as bs : List D} {xs ys : Array Value} {l : List (Nat × Nat)} {b : Bool} (ht : eqDesc P t = some l) (hb : eqCells l as bs = some b) (x y : Operand) (op : BinOp)
    (hx : ∀ (j : Nat) v, as[j]? = some (.v v) → xs[j]? = some v) (hy : ∀ (j : Nat) v, bs[j]? = some (.v v) → ys[j]? = some v) (w : World) :
    (op = .eql → (do eqGuard op t x y (.agg xs) (.agg ys); binOp op t (.agg xs) (.agg ys) : Sem Value).run P w = .ok (.bool b) w) ∧
    (op = .neq → (do eqGuard op t x y (.agg xs) (.agg ys); binOp op t (.agg xs) (.agg ys) : Sem Value).run P w = .ok (.bool !b) w) := by
  unfold eqDesc at ht
  split at ht
  · rename_i fs hu
    split at ht
    · rename_i hc
      have hfo : P.fieldsOf t = fs := by simp [Program.fieldsOf, hu]
      have h1 := eqFields_ok (w := w) 9998 hx hy fs.toList l b ht hb
      have h2 := run_equalIn_struct w 9999 t xs ys (by rw [hfo]; exact hu) hc.1
      rw [hfo, h1] at h2
      refine ⟨?_, ?_⟩ <;> rintro rfl
      · simp only [Sem.run_bind, run_eqGuard_agg w _ t x y xs ys hc.2, Result.andThen_ok, run_eql_struct, h2]
      · simp only [Sem.run_bind, run_eqGuard_agg w _ t x y xs ys hc.2, Result.andThen_ok, run_neq_struct, h2]
    · cases ht
  · cases ht

/-! maps -/
/-- keys of a map: 0 integers, 1 strings; the type of its values -/
def mapOf (P : Program) (t : TypeId) : Option (Nat × TypeId) :=
  match P.underlying t with
  | some (.map k e) => match P.underlying k with
    | some (.int _) => some (0, e)
    | some .string => some (1, e)
    | _ => none
  | _ => none
def zeroV (P : Program) (t : TypeId) : Option Value := (P.info? t).bind (·.zero)
def keyEq : Nat → Value → Value → Option Bool
  | 0, .int k a, .int k' b => if k = k' then some (decide (a = b)) else none
  | 1, .string a, .string b => some (a.data.toList == b.data.toList)
  | _, _, _ => none
/-- where a key is, and its value -/
def mfind (tag : Nat) (k : Value) : List (Value × D) → Option (Option D)
  | [] => some none
  | (k', d) :: r => match keyEq tag k k' with
    | some true => some (some d)
    | some false => mfind tag k r
    | none => none
def mapAt (S : St) (d : D) : Option (List (Value × D)) :=
  match d with
  | .v (.map none) => some []
  | .own s g => match look S.heap s with
    | some (g', .map es) => if g' = g then some es else none
    | _ => none
  | _ => none
def lookupK (P : Program) (S : St) (t : TypeId) (dm dk : D) (commaOk : Bool) (k : D → Prop) : Prop :=
  match mapOf P t, dk, mapAt S dm with
  | some (tag, e), .v key, some es =>
    match zeroV P e, mfind tag key es with
    | some z, some r => match r with
      | some d => k (if commaOk then .tup [d, .v (.bool true)] else d)
      | none => k (if commaOk then .tup [.v z, .v (.bool false)] else .v z)
    | _, _ => False
  | _, _, _ => False

theorem mapOf_spec {t : TypeId} {tag : Nat} {e : TypeId} (h : mapOf P t = some (tag, e)) : ∃ k, P.underlying t = some (.map k e) ∧ ((tag = 0 ∧ ∃ q, P.underlying k = some (.int q)) ∨ (tag = 1 ∧ P.underlying k = some .string)) := by
  unfold mapOf at h
  split at h
  · rename_i k e' hu
    split at h
    · rename_i q hk
      simp only [Option.some.injEq, Prod.mk.injEq] at h
      obtain ⟨rfl, rfl⟩ := h
      exact ⟨k, hu, .inl ⟨rfl, q, hk⟩⟩
    · rename_i hk
      simp only [Option.some.injEq, Prod.mk.injEq] at h
      obtain ⟨rfl, rfl⟩ := h
      exact ⟨k, hu, .inr ⟨rfl, hk⟩⟩
    · cases h
  · cases h
theorem keyEq_same {tag : Nat} {kt : TypeDesc} (hk : (tag = 0 ∧ ∃ q, kt = .int q) ∨ (tag = 1 ∧ kt = .string)) {a b : Value} {r : Bool} (h : keyEq tag a b = some r) : Instr.sameNow kt a b = some r := by
  unfold keyEq at h
  split at h
  · rcases hk with ⟨_, q, rfl⟩ | ⟨h0, _⟩
    · simp only [Instr.sameNow]
      split at h
      · rename_i he; rw [if_pos he]; simp only [Option.some.injEq] at h ⊢; rw [← h]; rfl
      · cases h
    · cases h0
  · rcases hk with ⟨h0, _⟩ | ⟨_, rfl⟩
    · cases h0
    · simp only [Instr.sameNow]
      simp only [Option.some.injEq] at h ⊢
      rw [← h, beq_toListBytes, ByteArray.toList_eq, ByteArray.toList_eq]
  · cases h
/-- what is found is what the machine finds -/
theorem mfind_ok {tag : Nat} {kt : TypeDesc} (hk : (tag = 0 ∧ ∃ q, kt = .int q) ∨ (tag = 1 ∧ kt = .string)) {key : Value} : ∀ {es : List (Value × D)} {arr : List MapEntry} (i : Nat) {r : Option D}, arr.length = es.length →
    (∀ (j : Nat) (e : Value × D) (x : MapEntry), es[j]? = some e → arr[j]? = some x → x.key = e.1) → mfind tag key es = some r →
    (r = none → Instr.findNow kt key arr i = some none) ∧ (∀ d, r = some d → ∃ (j : Nat) (e : Value × D) (x : MapEntry), es[j]? = some e ∧ arr[j]? = some x ∧ e.2 = d ∧ Instr.findNow kt key arr i = some (some (i + j, x.val)) ∧ keyEq tag key x.key = some true ∧ ∀ (m : Nat) (e' : Value × D), m < j → es[m]? = some e' → keyEq tag key e'.1 = some false)
  | [], [], i, r, _, _, h => by
    simp only [mfind, Option.some.injEq] at h
    subst h
    exact ⟨fun _ => rfl, fun d h => by cases h⟩
  | [], _ :: _, i, r, h, _, _ => by simp at h
  | _ :: _, [], i, r, h, _, _ => by simp at h
  | (k', d') :: es, x :: arr, i, r, hl, hkeys, h => by
    have h0 : x.key = k' := hkeys 0 _ _ rfl rfl
    simp only [mfind] at h
    split at h
    · rename_i he
      simp only [Option.some.injEq] at h
      subst h
      refine ⟨fun h => (by cases h), fun d hd => ?_⟩
      simp only [Option.some.injEq] at hd
      subst hd
      refine ⟨0, _, x, rfl, rfl, rfl, ?_, by rw [h0]; exact he, fun m e' hm => by omega⟩
      simp only [Instr.findNow, h0, keyEq_same hk he, Nat.add_zero]
    · rename_i he
      have ih := mfind_ok hk (i + 1) (es := es) (arr := arr) (r := r) (by simpa using hl) (fun j e x' h1 h2 => hkeys (j + 1) e x' (by simpa using h1) (by simpa using h2)) h
      refine ⟨fun hr => ?_, fun d hd => ?_⟩
      · simp only [Instr.findNow, h0, keyEq_same hk he]; exact ih.1 hr
      · obtain ⟨j, e, y, q1, q2, q3, q4, q5, q6⟩ := ih.2 d hd
        refine ⟨j + 1, e, y, by simpa using q1, by simpa using q2, q3, ?_, q5, fun m e' hm he' => ?_⟩
        · simp only [Instr.findNow, h0, keyEq_same hk he, q4, show i + 1 + j = i + (j + 1) by omega]
        · cases m with
          | zero => simp at he'; subst he'; exact he
          | succ m => exact q6 m e' (by omega) (by simpa using he')
    · cases h
theorem checkKey_ok {kt : TypeId} {tag : Nat} {kd : TypeDesc} (hu : P.underlying kt = some kd) (hk : (tag = 0 ∧ ∃ q, kd = .int q) ∨ (tag = 1 ∧ kd = .string)) (b : Bool) (m : Nat) (v : Value) (w : World) : (Instr.checkKey b (m + 1) kt v).run P w = .ok () w := by
  rcases hk with ⟨_, q, rfl⟩ | ⟨_, rfl⟩ <;> simp [Instr.checkKey, run_underlying hu]

/-- an error against nil -/
def isIface (P : Program) (t : TypeId) : Bool := match P.underlying t with
  | some (.interface _) => true
  | _ => false
def ifK (op : BinOp) (b : Bool) (dy : D) (k : D → Prop) : Prop :=
  match dy with
  | .v .nilIface => match op with
    | .eql => k (.v (.bool b))
    | .neq => k (.v (.bool !b))
    | _ => False
  | _ => False
theorem isIface_spec {t : TypeId} (h : isIface P t = true) : ∃ ms, P.underlying t = some (.interface ms) := by
  unfold isIface at h
  split at h
  · exact ⟨_, ‹_›⟩
  · cases h
theorem if_run {t : TypeId} (ht : isIface P t = true) (op : BinOp) (x : Operand) (ux : Value) (b : Bool) (hu : (ux = .nilIface ∧ b = true) ∨ (∃ tt v, ux = .iface tt v) ∧ b = false) (w : World) :
    (op = .eql → (do eqGuard op t x (.const .nilIface) ux .nilIface; binOp op t ux .nilIface : Sem Value).run P w = .ok (.bool b) w) ∧
    (op = .neq → (do eqGuard op t x (.const .nilIface) ux .nilIface; binOp op t ux .nilIface : Sem Value).run P w = .ok (.bool !b) w) := by
  obtain ⟨ms, hms⟩ := isIface_spec ht
  have e0 : ∀ d, (Op.equalIn (d + 1) t ux .nilIface).run P w = .ok b w := fun d => by
    rcases hu with ⟨rfl, rfl⟩ | ⟨⟨tt, v, rfl⟩, rfl⟩ <;> simp [Op.equalIn, run_underlying hms]
  have e := e0 9999
  have g : ∀ op, (eqGuard op t x (.const .nilIface) ux .nilIface) = pure () := fun op => by
    unfold eqGuard
    rcases hu with ⟨rfl, rfl⟩ | ⟨⟨tt, v, rfl⟩, rfl⟩ <;> cases op <;> simp
  constructor
  · rintro rfl
    rw [g]
    rcases hu with ⟨rfl, rfl⟩ | ⟨⟨tt, v, rfl⟩, rfl⟩ <;> simp [binOp, Op.equal, Op.maxDepth, e]
  · rintro rfl
    rw [g]
    rcases hu with ⟨rfl, rfl⟩ | ⟨⟨tt, v, rfl⟩, rfl⟩ <;> simp [binOp, Op.equal, Op.maxDepth, e]
/-- the quiet operations: those that only compute and read -/
def qK (P : Program) (c : Bool) (S : St) (op : Op) (k : D → Prop) : Prop :=
  match op with
  | .move x | .assign x => evK c S x k
  | .pick x y z => evK c S x fun dx => match dx with
    | .v (.bool b) => evK (c && b) S y fun dy => evK (c && !b) S z fun dz => bothK dy dz b k
    | _ => False
  | .binOp op t x y _ => evK c S x fun dx => evK c S y fun dy => match dx with
    | .v (.bool _) => P.underlying t = some .bool ∧ binK c op dx dy k
    | .v .nilIface => isIface P t = true ∧ y = .const .nilIface ∧ ifK op true dy k
    | .v (.iface _ _) => isIface P t = true ∧ y = .const .nilIface ∧ ifK op false dy k
    | .agg as => aggCmpK P t op as dy k
    | .sl _ es => nilCmpK P t op es dy k
    | .own s g => match rowOf S s g with
      | some (_, _, es) => nilCmpK P t op es dy k
      | none => False
    | _ => binK c op dx dy k
  | .unOp op _ x => evK c S x fun dx => match op, dx with
    | .not, .v (.bool b) => k (.v (.bool !b))
    | .neg, .v (.int .i64 i) => (c = true → InR (-i)) ∧ k (.v (.int .i64 (-i)))
    | _, _ => False
  | .convert src dst x => evK c S x fun dx => match dx, P.underlying src, P.underlying dst with
    | .v (.int _ i), some _, some (.int .i64) => (c = true → InR i) ∧ k (.v (.int .i64 i))
    | .v (.int _ i), some _, some (.int kd) => k (.v (.int kd (kd.wrap i)))
    | .v (.string s), some _, some .string => k (.v (.string s))
    | _, _, _ => False
  | .fieldAddr t x i => evK c S x fun dx => match fldOf P t i with
    | some (o, _, s) => s ≠ 0 ∧ fieldAddrK o dx k
    | none => False
  | .field t x i => evK c S x fun dx => match fldOf P t i, dx with
    | some (o, agg, s), .agg cs => takeK agg s (cs.drop o) k
    | _, _ => False
  | .indexAddr t x y => evK c S x fun dx => evK c S y fun dy => match slOf P t, dy with
    | some (_, sz, _), .v (.int _ i) => idxK c S sz dx i k
    | none, .v (.int _ i) => match arrOf P t with
      | some (m, sz) => (c = true → 0 ≤ i ∧ i.toNat < m) ∧ fieldAddrK (i.toNat * sz) dx k
      | none => False
    | _, _ => False
  | .index t x y => evK c S x fun dx => evK c S y fun dy => match P.underlying t, dx, dy with
    | some .string, .v (.string s), .v (.int _ i) => match s.data.toList[i.toNat]? with
      | some b => (c = true → 0 ≤ i) ∧ k (.v (.int .u8 b.toNat))
      | none => False
    | _, _, _ => False
  | .load t x => evK c S x fun dx => loadK P S t dx k
  | .nilCheck x => evK c S x fun dx => ptrLike dx = true ∧ k dx
  | .lookup t x y ok => evK c S x fun dx => evK c S y fun dy => lookupK P S t dx dy ok k
  | .slice t x lo hi none => evK c S x fun dx => optI c S lo fun l => optI c S hi fun h => match dx with
    | .v (.string _) => P.underlying t = some .string ∧ cutK c S dx l h k
    | .sl k' _ => (match slOf P t with | some (_, s, _) => s = k' | none => False) ∧ cutK c S dx l h k
    | .own s g => (match slOf P t, frozOf S s g with | some (_, s, _), some (k', _) => s = k' | _, _ => False) ∧ cutK c S dx l h k
    | _ => False
  | .extract x i => evK c S x fun dx => match dx with
    | .tup ds => match ds[i]? with
      | some d => k d
      | none => False
    | _ => False
  | .build t parts => evsK c S (parts.toList.map (·.2)) fun ds => match bldOf P t with
    | some (place, zs) => match fillD place (zs.map .v) ((parts.toList.map (·.1)).zip ds) with
      | some cs => k (.agg cs)
      | none => False
    | none => False
  | .makeFunc fn first captured => first = #[] ∧ match fn with
    | .func f => match captured.toList with
      | [] => k (.v (.func (.func f) #[] #[]))
      | xs => evsK c S xs fun ds => k (.fn f ds)
    | _ => False
  | .call { callee := .builtin .len, args, argTypes } => match args.toList, argTypes.toList with
    | [x], [t] => evK c S x fun dx => (match dx with
      | .v (.string _) => P.underlying t = some .string
      | _ => match slOf P t with | some _ => True | none => False) ∧ lenK S dx k
    | _, _ => False
  | .call { callee := .builtin .min, args, .. } => match args.toList with
    | [x, y] => evK c S x fun dx => evK c S y fun dy => match dx, dy with
      | .v (.int .i64 i), .v (.int .i64 j) => k (.v (.int .i64 (if j < i then j else i)))
      | _, _ => False
    | _ => False
  | .call { callee := .builtin .max, args, .. } => match args.toList with
    | [x, y] => evK c S x fun dx => evK c S y fun dy => match dx, dy with
      | .v (.int .i64 i), .v (.int .i64 j) => k (.v (.int .i64 (if i < j then j else i)))
      | _, _ => False
    | _ => False
  | _ => False

section
variable {w0 : World} {B : Nat → Nat → Prop} {C0 : Ctx} {n : Nat} {S : St} {C : Ctx} {a : Act} {w : World}

theorem evsK_ok (I : Inv w0 B C0 n S C a w) {c : Bool} : ∀ {xs : List Operand} {k : List D → Prop}, evsK c S xs k →
    ∃ ds, k ds ∧ ds.length = xs.length ∧ (c = true → ∀ (j : Nat) x d, xs[j]? = some x → ds[j]? = some d → Rep C w d (a.eval x)) := by
  intro xs
  induction xs with
  | nil => intro k h; exact ⟨[], h, rfl, fun _ j x d hx _ => by simp at hx⟩
  | cons x xs ih =>
    intro k h
    obtain ⟨d, hd, hr⟩ := evK_ok I h
    obtain ⟨ds, hds, hlen, hrs⟩ := ih hd
    refine ⟨d :: ds, hds, by simp [hlen], fun hc j x' d' hx hd' => ?_⟩
    cases j with
    | zero => simp at hx hd'; subst hx; subst hd'; exact hr hc
    | succ j => exact hrs hc j x' d' (by simpa using hx) (by simpa using hd')

theorem optI_ok (I : Inv w0 B C0 n S C a w) {c : Bool} {x : Option Operand} {k : Option Int → Prop} (h : optI c S x k) :
    ∃ i, k i ∧ (c = true → x.map a.eval = i.map (Value.int .i64)) := by
  cases x with
  | none => exact ⟨none, h, fun _ => rfl⟩
  | some x =>
    simp only [optI] at h
    obtain ⟨d, hd, hr⟩ := evK_ok I h
    split at hd
    · rename_i i
      refine ⟨some i, hd, fun hc => ?_⟩
      have := (hr hc).v_inv
      simp [this]
    · exact hd.elim

theorem loadK_ok (I : Inv w0 B C0 n S C a w) {t : TypeId} {d : D} {u : Value} {k : D → Prop} (h : loadK P S t d k) :
    ∃ d', k d' ∧ (Rep C w d u → ∃ u', Rep C w d' u' ∧ ∀ w', Same w w' → (Instr.loadAt t u).run P w' = .ok u' w') := by
  unfold loadK at h
  split at h
  · rename_i agg sz ht
    split at h
    · rename_i cs hcs
      exact load_ok I ht hcs h
    · exact h.elim
  · exact h.elim

theorem field_ok {t : TypeId} {i o s : Nat} {agg : Bool} (hf : fldOf P t i = some (o, agg, s)) {cs : List D} {u : Value} {k : D → Prop} (h : takeK agg s (cs.drop o) k) :
    ∃ d', k d' ∧ (Rep C w (.agg cs) u → ∃ u', Rep C w d' u' ∧ ∀ w', (Instr.field t u i).run P w' = .ok u' w') := by
  obtain ⟨fs, f, h1, h2, rfl, h4⟩ := fldOf_spec hf
  unfold takeK at h
  cases agg with
  | true =>
    simp only [if_true] at h
    refine ⟨_, h.2, fun hr => ?_⟩
    cases hr with
    | agg _ us hn hh =>
      have hlen := h.1
      simp only [List.length_drop] at hlen
      refine ⟨.agg (us.extract f.offset (f.offset + s)), .agg _ _ (by simp; omega) (fun j c u hj hu => ?_), fun w' => ?_⟩
      · rw [List.getElem?_take] at hj
        split at hj
        · rename_i hjs
          rw [List.getElem?_drop] at hj
          rw [Array.getElem?_extract] at hu
          split at hu
          · exact hh _ _ _ hj hu
          · cases hu
        · cases hj
      · simp [Instr.field, run_underlying h1, h2, part, asAgg, run_isAgg h4, run_sizeOf h4]
  | false =>
    simp only [Bool.false_eq_true, if_false] at h
    split at h
    · rename_i d rest hd
      refine ⟨_, h.2.2, fun hr => ?_⟩
      cases hr with
      | agg _ us hn hh =>
        have hj : cs[f.offset]? = some d := by
          have : (cs.drop f.offset)[0]? = some d := by rw [hd]; rfl
          rwa [List.getElem?_drop, Nat.add_zero] at this
        have hlt : f.offset < us.size := by rw [hn]; exact (List.getElem?_eq_some_iff.1 hj).1
        have hu : us[f.offset]? = some us[f.offset] := Array.getElem?_eq_getElem hlt
        refine ⟨_, hh _ _ _ hj hu, fun w' => ?_⟩
        simp [Instr.field, run_underlying h1, h2, part, asAgg, run_isAgg h4, hu]
    · exact h.elim

/-- the entries behind a map -/
theorem mapAt_ok (I : Inv w0 B C0 n S C a w) {d : D} {es : List (Value × D)} {u : Value} (h : mapAt S d = some es) (hr : Rep C w d u) :
    (u = .map none ∧ es = []) ∨ ∃ r arr clock, u = .map (some r) ∧ w.heap[r]? = some (.map arr clock) ∧ arr.size = es.length ∧ ∀ (j : Nat) e x, es[j]? = some e → arr[j]? = some x → x.key = e.1 ∧ Rep C w e.2 x.val := by
  unfold mapAt at h
  split at h
  · simp only [Option.some.injEq] at h
    exact .inl ⟨hr.v_inv, h.symm⟩
  · rename_i s g
    split at h
    · rename_i g' es' hl
      split at h
      · rename_i hg
        simp only [Option.some.injEq] at h
        subst hg h
        obtain ⟨r, arr, clock, h1, _, h3, h4, h5⟩ := I.heap s g' _ hl
        cases hr with
        | own _ _ _ hv _ =>
          rw [h1] at hv
          simp only [Option.some.injEq] at hv
          subst hv
          exact .inr ⟨r, arr, clock, rfl, h3, h4, h5⟩
      · cases h
    · cases h
  · cases h
theorem pairR {d e : D} (u v : Value) (h : Rep C w d u) (h' : Rep C w e v) : Rep C w (.tup [d, e]) (.tuple #[u, v]) := by
  refine .tup _ _ rfl fun j c x hc hx => ?_
  match j, hc, hx with
  | 0, hc, hx =>
    simp at hc hx
    subst hc hx
    exact h
  | 1, hc, hx =>
    simp at hc hx
    subst hc hx
    exact h'
theorem lookup_ok (I : Inv w0 B C0 n S C a w) {t : TypeId} {dm dk : D} {um uk : Value} {ok : Bool} {k : D → Prop} (h : lookupK P S t dm dk ok k) :
    ∃ d', k d' ∧ (Rep C w dm um → Rep C w dk uk → ∃ u', Rep C w d' u' ∧ ∀ w', Same w w' → (Instr.lookup t um uk ok).run P w' = .ok u' w') := by
  unfold lookupK at h
  split at h
  · rename_i tag e key es hm hes
    split at h
    · rename_i z r hz hf
      obtain ⟨kt, hu, hk⟩ := mapOf_spec hm
      obtain ⟨kd, hkd, hk'⟩ : ∃ kd, P.underlying kt = some kd ∧ ((tag = 0 ∧ ∃ q, kd = .int q) ∨ (tag = 1 ∧ kd = .string)) := by
        rcases hk with ⟨h1, q, h2⟩ | ⟨h1, h2⟩
        · exact ⟨_, h2, .inl ⟨h1, q, rfl⟩⟩
        · exact ⟨_, h2, .inr ⟨h1, rfl⟩⟩
      have hzr : ∀ w' : World, (zeroValue e).run P w' = .ok z w' := fun w' => by
        unfold zeroV at hz
        obtain ⟨i, hi, hz⟩ := Option.bind_eq_some_iff.1 hz
        simp [zeroValue, typeInfo, hi, hz]
      have run : ∀ (um : Value) (arr : Array MapEntry) (w' : World), ((um = .map none ∧ arr = #[]) ∨ ∃ r clock, um = .map (some r) ∧ w'.heap[r]? = some (.map arr clock)) → ∀ x, Instr.findNow kd key arr.toList 0 = some x →
          (Instr.lookup t um key ok).run P w' = .ok (match x with | some (_, v) => if ok then .tuple #[v, .bool true] else v | none => if ok then .tuple #[z, .bool false] else z) w' := by
        intro um arr w' hc x hx
        rcases hc with ⟨rfl, rfl⟩ | ⟨r, clock, rfl, hh⟩
        · simp only [Instr.lookup]
          simp only [Sem.run_bind, run_underlying hu, Result.andThen_ok]
          simp only [Sem.run_pure, Result.andThen_ok, Sem.run_bind, checkKey_ok hkd hk', Instr.findKey, run_underlying hkd, hx]
          cases x with
          | none => simp only [Sem.run_bind, Sem.run_pure, hzr, Result.andThen_ok]; try (cases ok <;> rfl)
          | some p => obtain ⟨_, v⟩ := p; simp only [Sem.run_bind, Sem.run_pure, Result.andThen_ok]; try (cases ok <;> rfl)
        · simp only [Instr.lookup]
          simp only [Sem.run_bind, run_underlying hu, Result.andThen_ok]
          have hg : (getObj r).run P w' = .ok (.map arr clock) w' := by simp [getObj, Sem.run, hh]
          simp only [Sem.run_bind, hg, Sem.run_pure, Result.andThen_ok, checkKey_ok hkd hk', Instr.findKey, run_underlying hkd, hx]
          cases x with
          | none => simp only [Sem.run_bind, Sem.run_pure, hzr, Result.andThen_ok]; try (cases ok <;> rfl)
          | some p => obtain ⟨_, v⟩ := p; simp only [Sem.run_bind, Sem.run_pure, Result.andThen_ok]; try (cases ok <;> rfl)
      -- the entries
      have ents : Rep C w dm um → ∃ arr : Array MapEntry, arr.size = es.length ∧ (∀ (j : Nat) e x, es[j]? = some e → arr[j]? = some x → x.key = e.1 ∧ Rep C w e.2 x.val) ∧ ∀ w', Same w w' → ((um = .map none ∧ arr = #[]) ∨ ∃ r clock, um = .map (some r) ∧ w'.heap[r]? = some (.map arr clock)) := fun hr => by
        rcases mapAt_ok I hes hr with ⟨rfl, rfl⟩ | ⟨r, arr, clock, rfl, h3, h4, h5⟩
        · exact ⟨#[], rfl, fun j e x h => by simp at h, fun w' _ => .inl ⟨rfl, rfl⟩⟩
        · refine ⟨arr, h4, h5, fun w' hs => .inr ⟨r, clock, rfl, ?_⟩⟩
          have hlt : r < w.heap.size := (Array.getElem?_eq_some_iff.1 h3).1
          rw [hs.2 r hlt]; exact h3
      cases r with
      | none =>
        refine ⟨_, h, fun hr hk2 => ?_⟩
        obtain rfl := hk2.v_inv
        obtain ⟨arr, h1, h2, h3⟩ := ents hr
        have := (mfind_ok hk' 0 (arr := arr.toList) (by simpa using h1) (fun j e x q1 q2 => (h2 j e x q1 (by simpa using q2)).1) hf).1 rfl
        refine ⟨if ok then .tuple #[z, .bool false] else z, ?_, fun w' hs => run um arr w' (h3 w' hs) none this⟩
        cases ok with
        | true => exact pairR _ _ (.v _) (.v _)
        | false => exact .v _
      | some d =>
        refine ⟨_, h, fun hr hk2 => ?_⟩
        obtain rfl := hk2.v_inv
        obtain ⟨arr, h1, h2, h3⟩ := ents hr
        obtain ⟨j, e', x, q1, q2, q3, q4, _⟩ := (mfind_ok hk' 0 (arr := arr.toList) (by simpa using h1) (fun j e x q1 q2 => (h2 j e x q1 (by simpa using q2)).1) hf).2 d rfl
        have hv := (h2 j e' x q1 (by simpa using q2)).2
        rw [q3] at hv
        refine ⟨if ok then .tuple #[x.val, .bool true] else x.val, ?_, fun w' hs => run um arr w' (h3 w' hs) _ q4⟩
        cases ok with
        | true => exact pairR _ _ hv (.v _)
        | false => exact hv
    · exact h.elim
  · exact h.elim

theorem q_ok (I : Inv w0 B C0 n S C a w) {c : Bool} {o : Oper} {k : D → Prop} (h : qK P c S o.op k) : QOk P C w o a c k := by
  obtain ⟨dst, op, ty, pos, after, guard⟩ := o
  unfold QOk
  cases op with
  | move x =>
    obtain ⟨d, hd, hr⟩ := evK_ok I h
    exact ⟨d, hd, fun hc => ⟨_, hr hc, fun w' _ => by simp [execOp]⟩⟩
  | assign x =>
    obtain ⟨d, hd, hr⟩ := evK_ok I h
    exact ⟨d, hd, fun hc => ⟨_, hr hc, fun w' _ => by simp [execOp]⟩⟩
  | pick x y z =>
    simp only [qK] at h
    obtain ⟨dx, hx, hrx⟩ := evK_ok I h
    split at hx
    · rename_i b
      obtain ⟨dy, hy, hry⟩ := evK_ok I hx
      obtain ⟨dz, hz, hrz⟩ := evK_ok I hy
      unfold bothK at hz
      split at hz
      · rename_i p q
        refine ⟨_, hz, fun hc => ⟨_, .v _, fun w' _ => ?_⟩⟩
        have hxe := (hrx hc).v_inv
        cases b with
        | true =>
          have hye := (hry (by simp [hc])).v_inv
          simp [execOp, hxe, hye, asBool]
        | false =>
          have hze := (hrz (by simp [hc])).v_inv
          simp [execOp, hxe, hze, asBool]
      · obtain ⟨hb, hz⟩ := hz
        subst hb
        refine ⟨_, hz, fun hc => ⟨_, .v _, fun w' _ => ?_⟩⟩
        have hxe := (hrx hc).v_inv
        have hye := (hry (by simp [hc])).v_inv
        simp [execOp, hxe, hye, asBool]
      · obtain ⟨hb, hz⟩ := hz
        subst hb
        refine ⟨_, hz, fun hc => ⟨_, .v _, fun w' _ => ?_⟩⟩
        have hxe := (hrx hc).v_inv
        have hze := (hrz (by simp [hc])).v_inv
        simp [execOp, hxe, hze, asBool]
      · exact hz.elim
    · exact hx.elim
  | binOp op t x y yt =>
    simp only [qK] at h
    obtain ⟨dx, hx, hrx⟩ := evK_ok I h
    obtain ⟨dy, hy, hry⟩ := evK_ok I hx
    have key : ∀ (ux uy : Value), dx = .v ux → dy = .v uy → (∃ d, k d ∧ (c = true → ∃ u, d = .v u ∧ ∀ w', (do eqGuard op t x y ux uy; binOp op t ux uy : Sem Value).run P w' = .ok u w')) →
        ∃ d, k d ∧ (c = true → ∃ u, Rep C w d u ∧ ∀ w', (isLoad (.binOp op t x y yt) = true → Same w w') → (execOp a.eval ⟨dst, .binOp op t x y yt, ty, pos, after, guard⟩).run P w' = .ok (.value u) w') := by
      rintro ux uy rfl rfl ⟨d, hd, hu⟩
      refine ⟨d, hd, fun hc => ?_⟩
      obtain ⟨u, rfl, hrun⟩ := hu hc
      refine ⟨u, .v u, fun w' _ => ?_⟩
      have e1 := (hrx hc).v_inv
      have e2 := (hry hc).v_inv
      have hr := hrun w'
      simp only [execOp, e1, e2, Sem.run_bind] at hr ⊢
      rw [hr]
      simp
    have nilc : ∀ (es : List (List D)) (k2 : D → Prop), nilCmpK P t op es dy k2 → (c = true → ∃ ao n cap, a.eval x = .slice ao n cap ∧ (ao = none → es = [])) →
        ∃ d, k2 d ∧ (c = true → ∃ u, Rep C w d u ∧ ∀ w', (isLoad (.binOp op t x y yt) = true → Same w w') → (execOp a.eval ⟨dst, .binOp op t x y yt, ty, pos, after, guard⟩).run P w' = .ok (.value u) w') := by
      intro es k2 hn hx'
      unfold nilCmpK at hn
      split at hn
      · obtain ⟨hu, hn⟩ := hn
        split at hu
        · rename_i e he
          cases c with
          | false =>
            split at hn
            · exact ⟨_, hn false (fun _ => rfl), fun h => by cases h⟩
            · exact ⟨_, hn false (fun _ => rfl), fun h => by cases h⟩
            · exact hn.elim
          | true =>
            obtain ⟨ao, n', cap, hxu, h0⟩ := hx' rfl
            have hyu := (hry rfl).v_inv
            have hb : es ≠ [] → ao.isNone = false := fun h => by cases ao with
              | none => exact absurd (h0 rfl) h
              | some _ => rfl
            split at hn
            · refine ⟨_, hn _ hb, fun _ => ⟨_, .v _, fun w' _ => ?_⟩⟩
              have hr := (bin_nil (x := x) (y := y) he ao n' cap w').1
              simp only [execOp, hxu, hyu, Sem.run_bind] at hr ⊢
              rw [hr]
              simp
            · refine ⟨_, hn _ hb, fun _ => ⟨_, .v _, fun w' _ => ?_⟩⟩
              have hr := (bin_nil (x := x) (y := y) he ao n' cap w').2
              simp only [execOp, hxu, hyu, Sem.run_bind] at hr ⊢
              rw [hr]
              simp
            · exact hn.elim
        · exact hu.elim
      · exact hn.elim
    have ifc : ∀ (b : Bool) (k2 : D → Prop), isIface P t = true → (c = true → (a.eval x = .nilIface ∧ b = true) ∨ (∃ tt v, a.eval x = .iface tt v) ∧ b = false) → ifK op b dy k2 → y = .const .nilIface →
        ∃ d, k2 d ∧ (c = true → ∃ u, Rep C w d u ∧ ∀ w', (isLoad (.binOp op t x y yt) = true → Same w w') → (execOp a.eval ⟨dst, .binOp op t x y yt, ty, pos, after, guard⟩).run P w' = .ok (.value u) w') := by
      rintro b k2 h1 h2 h3 rfl
      unfold ifK at h3
      split at h3
      · split at h3
        · refine ⟨_, h3, fun hc => ⟨_, .v _, fun w' _ => ?_⟩⟩
          have hr := (if_run h1 .eql x _ b (h2 hc) w').1 rfl
          simp only [execOp, Sem.run_bind] at hr ⊢
          have e2 : a.eval (.const .nilIface) = .nilIface := rfl
          rw [e2, hr]
          simp
        · refine ⟨_, h3, fun hc => ⟨_, .v _, fun w' _ => ?_⟩⟩
          have hr := (if_run h1 .neq x _ b (h2 hc) w').2 rfl
          simp only [execOp, Sem.run_bind] at hr ⊢
          have e2 : a.eval (.const .nilIface) = .nilIface := rfl
          rw [e2, hr]
          simp
        · exact h3.elim
      · exact h3.elim
    split at hy
    · rename_i b
      obtain ⟨ht, hy⟩ := hy
      cases dy with
      | v uy => cases uy with
        | bool b2 => exact key _ _ rfl rfl (bin_bool ht hy)
        | _ => exact hy.elim
      | _ => exact hy.elim
    · obtain ⟨h1, rfl, hy⟩ := hy
      exact ifc _ _ h1 (fun hc => .inl ⟨(hrx hc).v_inv, rfl⟩) hy rfl
    · obtain ⟨h1, rfl, hy⟩ := hy
      exact ifc _ _ h1 (fun hc => .inr ⟨⟨_, _, (hrx hc).v_inv⟩, rfl⟩) hy rfl
    · rename_i as
      unfold aggCmpK at hy
      split at hy
      · rename_i bs
        split at hy
        · rename_i l hl
          split at hy
          · rename_i b hb
            have cellsOf : ∀ (ds : List D) (u : Value), Rep C w (.agg ds) u → ∃ us, u = .agg us ∧ ∀ (j : Nat) v, ds[j]? = some (.v v) → us[j]? = some v := fun ds u hr => by
              cases hr with
              | agg _ us hn hh =>
                refine ⟨us, rfl, fun j v hj => ?_⟩
                have hlt : j < us.size := by rw [hn]; exact (List.getElem?_eq_some_iff.1 hj).1
                have := (hh j _ us[j] hj (Array.getElem?_eq_getElem hlt)).v_inv
                rw [Array.getElem?_eq_getElem hlt, this]
            have run : c = true → ∃ us vs, a.eval x = .agg us ∧ a.eval y = .agg vs ∧ ∀ w', (op = .eql → (do eqGuard op t x y (.agg us) (.agg vs); binOp op t (.agg us) (.agg vs) : Sem Value).run P w' = .ok (.bool b) w') ∧
                (op = .neq → (do eqGuard op t x y (.agg us) (.agg vs); binOp op t (.agg us) (.agg vs) : Sem Value).run P w' = .ok (.bool !b) w') := fun hc => by
              obtain ⟨us, e1, h1⟩ := cellsOf _ _ (hrx hc)
              obtain ⟨vs, e2, h2⟩ := cellsOf _ _ (hry hc)
              exact ⟨us, vs, e1, e2, fun w' => aggCmp_run hl hb x y op h1 h2 w'⟩
            split at hy
            · refine ⟨_, hy, fun hc => ⟨_, .v _, fun w' _ => ?_⟩⟩
              obtain ⟨us, vs, e1, e2, hr⟩ := run hc
              have hr := (hr w').1 rfl
              simp only [execOp, e1, e2, Sem.run_bind] at hr ⊢
              rw [hr]
              simp
            · refine ⟨_, hy, fun hc => ⟨_, .v _, fun w' _ => ?_⟩⟩
              obtain ⟨us, vs, e1, e2, hr⟩ := run hc
              have hr := (hr w').2 rfl
              simp only [execOp, e1, e2, Sem.run_bind] at hr ⊢
              rw [hr]
              simp
            · exact hy.elim
          · exact hy.elim
        · exact hy.elim
      · exact hy.elim
    · rename_i es
      exact nilc _ _ hy fun hc => by
        obtain ⟨ao, cap, hu, _⟩ := len_sl (hrx hc)
        refine ⟨ao, _, cap, hu, fun h0 => ?_⟩
        subst h0
        have hr := hrx hc
        rw [hu] at hr
        cases hr
        rfl
    · rename_i s g
      split at hy
      · rename_i e' k' es hro
        exact nilc _ _ hy fun hc => by
          obtain ⟨u, xs, hv, _, hown, _, _⟩ := I.heap s g _ (rowOf_spec hro)
          have hr := hrx hc
          cases hr with
          | own _ _ _ hv2 _ =>
            rw [hv] at hv2
            simp only [Option.some.injEq] at hv2
            subst hv2
            rcases hown.2 with ⟨hu, h0⟩ | ⟨gb, cap, cur, hu, _⟩
            · exact ⟨none, 0, 0, hu, fun _ => List.eq_nil_of_length_eq_zero h0⟩
            · exact ⟨_, _, _, hu, fun h => by cases h⟩
      · exact hy.elim
    · rename_i hnb hni hni2 _ _ _
      cases dx with
      | v ux =>
        cases dy with
        | v uy =>
          cases ux <;> cases uy <;> first
            | exact hy.elim
            | exact absurd rfl (hnb _)
            | exact absurd rfl hni
            | exact absurd rfl (hni2 _ _)
            | exact key _ _ rfl rfl (bin_str hy)
            | exact key _ _ rfl rfl (bin_int hy)
        | _ => cases ux <;> exact hy.elim
      | _ => exact hy.elim
  | unOp op t x =>
    simp only [qK] at h
    obtain ⟨dx, hx, hrx⟩ := evK_ok I h
    split at hx
    · rename_i b
      refine ⟨_, hx, fun hc => ⟨_, .v _, fun w' _ => ?_⟩⟩
      simp [execOp, (hrx hc).v_inv, Op.unary]
    · rename_i i
      refine ⟨_, hx.2, fun hc => ⟨_, .v _, fun w' _ => ?_⟩⟩
      have := hx.1 hc
      simp [execOp, (hrx hc).v_inv, Op.unary, Op.intArith, inr_wrap this]
    · exact hx.elim
  | convert src dst' x =>
    simp only [qK] at h
    obtain ⟨dx, hx, hrx⟩ := evK_ok I h
    split at hx
    · rename_i ki i d1 h1 h2
      refine ⟨_, hx.2, fun hc => ⟨_, .v _, fun w' _ => ?_⟩⟩
      have := hx.1 hc
      simp [execOp, (hrx hc).v_inv, convert, run_underlying h1, run_underlying h2, Conv.intToInt, inr_wrap this]
    · rename_i ki i d1 kd _ h1 h2
      refine ⟨_, hx, fun hc => ⟨_, .v _, fun w' _ => ?_⟩⟩
      simp [execOp, (hrx hc).v_inv, convert, run_underlying h1, run_underlying h2, Conv.intToInt]
    · rename_i s d1 h1 h2
      refine ⟨_, hx, fun hc => ⟨_, .v _, fun w' _ => ?_⟩⟩
      simp [execOp, (hrx hc).v_inv, convert, run_underlying h1, run_underlying h2]
    · exact hx.elim
  | fieldAddr t x i =>
    simp only [qK] at h
    obtain ⟨dx, hx, hrx⟩ := evK_ok I h
    split at hx
    · rename_i o agg s hf
      obtain ⟨d', hd', hr'⟩ := fieldAddr_ok (C := C) (w := w) (u := a.eval x) hf hx.1 hx.2
      refine ⟨d', hd', fun hc => ?_⟩
      obtain ⟨u', hu', hrun⟩ := hr' (hrx hc)
      exact ⟨u', hu', fun w' _ => by simp [execOp, hrun w']⟩
    · exact hx.elim
  | field t x i =>
    simp only [qK] at h
    obtain ⟨dx, hx, hrx⟩ := evK_ok I h
    split at hx
    · rename_i o agg s cs hf
      obtain ⟨d', hd', hr'⟩ := field_ok (C := C) (w := w) (u := a.eval x) hf hx
      refine ⟨d', hd', fun hc => ?_⟩
      obtain ⟨u', hu', hrun⟩ := hr' (hrx hc)
      exact ⟨u', hu', fun w' _ => by simp [execOp, hrun w']⟩
    · exact hx.elim
  | indexAddr t x y =>
    simp only [qK] at h
    obtain ⟨dx, hx, hrx⟩ := evK_ok I h
    obtain ⟨dy, hy, hry⟩ := evK_ok I hx
    split at hy
    · rename_i e sz by' ik i hs
      obtain ⟨d', hd', hr'⟩ := idx_ok (P := P) I hs (ik := ik) (u := a.eval x) hy
      refine ⟨d', hd', fun hc => ?_⟩
      obtain ⟨u', hu', hrun⟩ := hr' hc (hrx hc)
      exact ⟨u', hu', fun w' _ => by simp [execOp, (hry hc).v_inv, hrun w']⟩
    · rename_i ik i hs
      split at hy
      · rename_i m sz ha
        obtain ⟨d', hd', hr'⟩ := arrAddr_ok (C := C) (w := w) (ik := ik) (i := i) ha (u := a.eval x) hy.2
        refine ⟨d', hd', fun hc => ?_⟩
        obtain ⟨u', hu', hrun⟩ := hr' (hy.1 hc) (hrx hc)
        exact ⟨u', hu', fun w' _ => by simp [execOp, (hry hc).v_inv, hrun w']⟩
      · exact hy.elim
    · exact hy.elim
  | index t x y =>
    simp only [qK] at h
    obtain ⟨dx, hx, hrx⟩ := evK_ok I h
    obtain ⟨dy, hy, hry⟩ := evK_ok I hx
    split at hy
    · rename_i s ik i hs
      split at hy
      · rename_i b hb
        refine ⟨_, hy.2, fun hc => ⟨_, .v _, fun w' _ => ?_⟩⟩
        have h0 := hy.1 hc
        have hb' : s[i.toNat]? = some b := by
          rw [List.getElem?_eq_some_iff] at hb
          obtain ⟨hlt, hb⟩ := hb
          have hlt' : i.toNat < s.size := by simpa using hlt
          rw [getElem?_pos s i.toNat hlt']
          simp only [Option.some.injEq]
          rw [← hb]
          simp
          rfl
        simp [execOp, (hrx hc).v_inv, (hry hc).v_inv, Instr.index, asIntOf, run_underlying hs, h0, hb']
      · exact hy.elim
    · exact hy.elim
  | load t x =>
    simp only [qK] at h
    obtain ⟨dx, hx, hrx⟩ := evK_ok I h
    obtain ⟨d', hd', hr'⟩ := loadK_ok I (u := a.eval x) hx
    refine ⟨d', hd', fun hc => ?_⟩
    obtain ⟨u', hu', hrun⟩ := hr' (hrx hc)
    exact ⟨u', hu', fun w' hs => by simp [execOp, hrun w' (hs rfl)]⟩
  | lookup t x y ok =>
    simp only [qK] at h
    obtain ⟨dx, hx, hrx⟩ := evK_ok I h
    obtain ⟨dy, hy, hry⟩ := evK_ok I hx
    obtain ⟨d', hd', hr'⟩ := lookup_ok I (um := a.eval x) (uk := a.eval y) hy
    refine ⟨d', hd', fun hc => ?_⟩
    obtain ⟨u', hu', hrun⟩ := hr' (hrx hc) (hry hc)
    exact ⟨u', hu', fun w' hs => by simp [execOp, hrun w' (hs rfl)]⟩
  | nilCheck x =>
    simp only [qK] at h
    obtain ⟨dx, hx, hrx⟩ := evK_ok I h
    refine ⟨dx, hx.2, fun hc => ⟨_, hrx hc, fun w' _ => ?_⟩⟩
    have hp := hx.1
    have hr := hrx hc
    have hn : ∃ ad, a.eval x = .pointer (some ad) := by
      generalize a.eval x = u at hr
      cases hr <;> first | exact ⟨_, rfl⟩ | (simp [ptrLike] at hp; done) | skip
      cases u with
      | pointer q => cases q with
        | none => simp [ptrLike] at hp
        | some ad => exact ⟨ad, rfl⟩
      | _ => simp [ptrLike] at hp
    obtain ⟨ad, hn⟩ := hn
    simp [execOp, hn]
  | slice t x lo hi mx =>
    cases mx with
    | some m => exact h.elim
    | none =>
      simp only [qK] at h
      obtain ⟨dx, hx, hrx⟩ := evK_ok I h
      obtain ⟨l, hl, hel⟩ := optI_ok I hx
      obtain ⟨u, hu, heu⟩ := optI_ok I hl
      have fin : (∃ d', k d' ∧ (c = true → Rep C w dx (a.eval x) → ∃ u', Rep C w d' u' ∧ ∀ w', (Instr.sliceAt t (a.eval x) (l.map (Value.int .i64)) (u.map (Value.int .i64)) none).run P w' = .ok u' w')) →
          ∃ d, k d ∧ (c = true → ∃ u, Rep C w d u ∧ ∀ w', (isLoad (.slice t x lo hi none) = true → Same w w') → (execOp a.eval ⟨dst, .slice t x lo hi none, ty, pos, after, guard⟩).run P w' = .ok (.value u) w') := by
        rintro ⟨d', hd', hr'⟩
        refine ⟨d', hd', fun hc => ?_⟩
        obtain ⟨u', hu', hrun⟩ := hr' hc (hrx hc)
        exact ⟨u', hu', fun w' _ => by simp only [execOp, hel hc, heu hc, Option.map_none, Sem.run_bind, hrun w']; simp⟩
      split at hu
      · rename_i s
        exact fin (cut_ok I (P := P) (t := t) hu.2 (fun _ _ => hu.1) (fun k' es hh => by
          rcases hh with hh | ⟨_, _, hh, _⟩ <;> cases hh))
      · rename_i k' es
        obtain ⟨hm, hu⟩ := hu
        refine fin (cut_ok I (P := P) (t := t) hu (fun _ hh => by cases hh) (fun k'' es' hh => ?_))
        rcases hh with hh | ⟨_, _, hh, _⟩
        · cases hh
          split at hm
          · rename_i e s b hs
            subst hm
            exact ⟨e, b, hs⟩
          · exact hm.elim
        · cases hh
      · rename_i s g
        obtain ⟨hm, hu⟩ := hu
        refine fin (cut_ok I (P := P) (t := t) hu (fun _ hh => by cases hh) (fun k'' es' hh => ?_))
        rcases hh with hh | ⟨s', g', hh, hf⟩
        · cases hh
        · cases hh
          rw [hf] at hm
          split at hm
          · rename_i e s b k3 es3 hs hf3
            subst hm
            simp only [Option.some.injEq, Prod.mk.injEq] at hf3
            obtain ⟨rfl, _⟩ := hf3
            exact ⟨e, b, hs⟩
          · exact hm.elim
      · exact hu.elim
  | extract x i =>
    simp only [qK] at h
    obtain ⟨dx, hx, hrx⟩ := evK_ok I h
    split at hx
    · rename_i ds
      split at hx
      · rename_i d hd
        refine ⟨d, hx, fun hc => ?_⟩
        have hr := hrx hc
        generalize hE : a.eval x = u at hr
        cases hr with
        | tup _ us hn hh =>
          have hlt : i < us.size := by rw [hn]; exact (List.getElem?_eq_some_iff.1 hd).1
          have hu : us[i]? = some us[i] := Array.getElem?_eq_getElem hlt
          exact ⟨_, hh _ _ _ hd hu, fun w' _ => by simp [execOp, hE, Instr.extract, hu]⟩
      · exact hx.elim
    · exact hx.elim
  | build t parts =>
    simp only [qK] at h
    obtain ⟨ds, hds, hlen, hrs⟩ := evsK_ok I h
    split at hds
    · rename_i place zs hb
      split at hds
      · rename_i cs hf
        refine ⟨_, hds, fun hc => ?_⟩
        have hz := Cells.vals (C := C) (w := w) zs
        simp only [List.length_map] at hlen
        obtain ⟨r, hr, hcells⟩ := fill_ok (C := C) (w := w) (place := place) ((parts.toList.map (·.1)).zip ds) (parts.toList.map fun (i, x) => (i, a.eval x)) (zs.map .v) zs.toArray cs hf (by simpa using hz)
          (by rw [List.map_fst_zip (by simp [hlen]), List.map_map]; rfl)
          (fun j p q hp hq => by
            rw [List.getElem?_map] at hq
            cases hx : parts.toList[j]? with
            | none => rw [hx] at hq; cases hq
            | some x =>
              rw [hx] at hq
              simp only [Option.map_some, Option.some.injEq] at hq
              subst hq
              rw [List.getElem?_zip_eq_some] at hp
              exact hrs hc j x.2 p.2 (by rw [List.getElem?_map, hx]; rfl) hp.2)
        refine ⟨.agg r, .agg _ _ (by rw [← hcells.1]; simp) (fun j c u hj hu => hcells.2 j c u hj (by simpa using hu)), fun w' _ => ?_⟩
        have hbuilt : P.built t (parts.map fun (i, x) => (i, a.eval x)).toList = some r := by
          exact bldOf_spec hb _ (by rw [← hr]; simp)
        simp only [execOp, Sem.run_bind, run_build w' t _ r hbuilt]
        simp
      · exact hds.elim
    · exact hds.elim
  | makeFunc fn first captured =>
    obtain ⟨rfl, h⟩ := h
    split at h
    · split at h
      · rename_i hc
        have hc : captured = #[] := by rw [← Array.toArray_toList (xs := captured), hc]
        subst hc
        exact ⟨_, h, fun _ => ⟨_, .v _, fun w' _ => by simp [execOp, Instr.makeFunc]⟩⟩
      · obtain ⟨ds, hk, hlen, hr⟩ := evsK_ok I h
        refine ⟨_, hk, fun hc => ⟨.func (.func _) #[] (captured.map a.eval), .fn _ _ _ (by simp [hlen]) (fun j d u hd hu => ?_), fun w' _ => by simp [execOp, Instr.makeFunc]⟩⟩
        rw [Array.getElem?_map] at hu
        cases hx : captured[j]? with
        | none => rw [hx] at hu; cases hu
        | some x =>
          rw [hx] at hu
          simp only [Option.map_some, Option.some.injEq] at hu
          subst hu
          exact hr hc j x d (by simpa using hx) hd
    · exact h.elim
  | call cl =>
    obtain ⟨callee, args, argTypes⟩ := cl
    cases callee with
    | value f => exact h.elim
    | invoke r m => exact h.elim
    | builtin b =>
      have two : ∀ {x y : Operand}, args.toList = [x, y] → args = #[x, y] := fun {x y} e => by
        rw [← Array.toArray_toList (xs := args), e]
      cases b with
      | len =>
        simp only [qK] at h
        split at h
        · rename_i x t ha ht
          obtain ⟨dx, hx, hrx⟩ := evK_ok I h
          have ha' : args = #[x] := by rw [← Array.toArray_toList (xs := args), ha]
          have ht' : argTypes = #[t] := by rw [← Array.toArray_toList (xs := argTypes), ht]
          subst ha' ht'
          obtain ⟨hty, hx⟩ := hx
          have hl : (∀ s, dx ≠ .v (.string s)) → ∃ e, P.underlying t = some (.slice e) := fun hns => by
            have : (match slOf P t with | some _ => True | none => False) := by
              split at hty
              · rename_i s; exact absurd rfl (hns s)
              · exact hty
            split at this
            · rename_i y hy
              obtain ⟨e, s, b⟩ := y
              obtain ⟨i, h1, _⟩ := slOf_spec hy
              exact ⟨e, h1⟩
            · exact this.elim
          obtain ⟨d', hd', hr'⟩ := len_ok (P := P) I (t := t) (ty := ty) (u := a.eval x) hx (fun s hs => by subst hs; exact hty) hl
          refine ⟨d', hd', fun hc => ?_⟩
          obtain ⟨u', hu', hrun⟩ := hr' (hrx hc)
          exact ⟨u', hu', fun w' _ => by simp [execOp, resolve, invoke, builtin, hrun w']⟩
        · exact h.elim
      | min =>
        simp only [qK] at h
        split at h
        · rename_i x y ha
          obtain ⟨dx, hx, hrx⟩ := evK_ok I h
          obtain ⟨dy, hy, hry⟩ := evK_ok I hx
          have ha' := two ha
          subst ha'
          split at hy
          · rename_i i j
            exact ⟨_, hy, fun hc => ⟨_, .v _, fun w' _ => by simp [execOp, resolve, invoke, builtin, (hrx hc).v_inv, (hry hc).v_inv, Builtin.min_, Builtin.min2]⟩⟩
          · exact hy.elim
        · exact h.elim
      | max =>
        simp only [qK] at h
        split at h
        · rename_i x y ha
          obtain ⟨dx, hx, hrx⟩ := evK_ok I h
          obtain ⟨dy, hy, hry⟩ := evK_ok I hx
          have ha' := two ha
          subst ha'
          split at hy
          · rename_i i j
            exact ⟨_, hy, fun hc => ⟨_, .v _, fun w' _ => by simp [execOp, resolve, invoke, builtin, (hrx hc).v_inv, (hry hc).v_inv, Builtin.max_, Builtin.max2]⟩⟩
          · exact hy.elim
        · exact h.elim
      | _ => exact h.elim
  | _ => exact h.elim
end
end Go.Eng

namespace Go.Eng
variable {P : Program}

def St.put (S : St) (t : Nat) (d : D) : St := ⟨(t, d) :: S.slots, S.heap⟩
def St.hput (S : St) (s g : Nat) (b : Blk) : St := ⟨S.slots, (s, (g, b)) :: S.heap⟩
/-- a place for a result; without one nothing is kept -/
def St.set (S : St) (dst : Option Nat) (d : D) : St := match dst with | some t => S.put t d | none => S

def Ctx.add (C : Ctx) (s g : Nat) (u : Value) : Ctx :=
  ⟨fun s' g' => if s' = s ∧ g' = g then some u else C.val s' g', fun s' g' => if s' = s ∧ g' = g then true else C.live s' g'⟩
def Ctx.kill (C : Ctx) (s g : Nat) : Ctx := ⟨C.val, fun s' g' => if s' = s ∧ g' = g then false else C.live s' g'⟩

/-- a world with one block more -/
structure Pushed (w : World) (o : Obj) (w1 : World) : Prop where
  heap : w1.heap = w.heap.push o
  os : w1.os = w.os
  tape : w1.tape = w.tape
  output : w1.output = w.output

theorem Pushed.alloc (w : World) (o : Obj) : Pushed w o (w.alloc o) := ⟨rfl, rfl, rfl, rfl⟩
section
variable {w0 : World} {B : Nat → Nat → Prop} {C0 : Ctx} {n : Nat} {S : St} {C : Ctx} {a : Act} {w w1 : World} {o : Obj}

theorem Pushed.old (h : Pushed w o w1) {b : Nat} (hb : b < w.heap.size) : w1.heap[b]? = w.heap[b]? := by
  rw [h.heap]; simp [Array.getElem?_push, Nat.ne_of_lt hb]
theorem Pushed.new (h : Pushed w o w1) : w1.heap[w.heap.size]? = some o := by rw [h.heap]; simp
theorem Pushed.size (h : Pushed w o w1) : w1.heap.size = w.heap.size + 1 := by rw [h.heap]; simp

theorem HRep.keep {C C' : Ctx} {w w' : World} {s g : Nat} {b : Blk} (h : HRep C w s g b) (e : Ext C w C' w') (hl : C.live s g = true → C'.live s g = true)
    (hb : ∀ u k, C.val s g = some u → C.live s g = true → blk u = some k → w'.heap[k]? = w.heap[k]?) : HRep C' w' s g b := by
  cases b with
  | box cs =>
    obtain ⟨b, arr, ty, h1, h2, h3, h4, h5⟩ := h
    exact ⟨b, arr, ty, e.val _ _ _ h1, hl h2, (hb _ b h1 h2 rfl).trans h3, h4, fun j c u hj hu => ⟨((h5 j c u hj hu).1).mono e, (h5 j c u hj hu).2⟩⟩
  | row ty k es =>
    obtain ⟨u, xs, h1, h2, h3, h4, h5⟩ := h
    refine ⟨u, xs, e.val _ _ _ h1, hl h2, ⟨h3.1, ?_⟩, h4, fun i j e' c x hi hj hx => ⟨((h5 i j e' c x hi hj hx).1).mono e, (h5 i j e' c x hi hj hx).2⟩⟩
    rcases h3.2 with hn | ⟨gb, cap, cur, rfl, hz, hg, rest⟩
    · exact .inl hn
    · exact .inr ⟨gb, cap, cur, rfl, hz, (hb _ gb h1 h2 rfl).trans hg, rest⟩
  | froz k es =>
    obtain ⟨u, h1, h2⟩ := h
    exact ⟨u, e.val _ _ _ h1, h2.mono e⟩
  | map es =>
    obtain ⟨r, arr, clock, h1, h2, h3, h4, h5⟩ := h
    exact ⟨r, arr, clock, e.val _ _ _ h1, hl h2, (hb _ r h1 h2 rfl).trans h3, h4, fun j c x hj hx => ⟨(h5 j c x hj hx).1, (h5 j c x hj hx).2.mono e⟩⟩
  | bld t nr gr =>
    obtain ⟨b, p, v, h1, h2, h3, h4, h5⟩ := h
    exact ⟨b, p, v, e.val _ _ _ h1, hl h2, (hb _ b h1 h2 rfl).trans h3, h4, e.val _ _ _ h5⟩
  | brow ty l =>
    obtain ⟨u, h1, h2, h3⟩ := h
    refine ⟨u, e.val _ _ _ h1, hl h2, ⟨h3.1, ?_⟩⟩
    rcases h3.2 with hn | ⟨gb, cap, cur, fz, rfl, hz, hg, rest⟩
    · exact .inl hn
    · exact .inr ⟨gb, cap, cur, fz, rfl, hz, (hb _ gb h1 h2 rfl).trans hg, rest⟩

theorem look_hput {S : St} {s g s' : Nat} {b : Blk} : look (S.hput s g b).heap s' = if s = s' then some (g, b) else look S.heap s' := rfl

theorem Inv.put (I : Inv w0 B C0 n S C a w) {t : Nat} {d : D} {u : Value} (ht : t < n) (hr : Rep C w d u) : Inv w0 B C0 n (S.put t d) C (a.put (some t) u) w := by
  refine ⟨by simp [Act.put, I.size], I.defers, fun k d' hk => ?_, I.heap, I.mine, I.apart, I.bound, I.fresh, I.frame, I.old, I.owned, I.kept, I.ents, I.dead0, I.bound0⟩
  simp only [St.put, look] at hk
  split at hk
  · rename_i e
    subst e
    simp only [Option.some.injEq] at hk
    subst hk
    exact ⟨u, by simp [Act.put, I.size, ht], hr⟩
  · rename_i e
    obtain ⟨x, hx, hrx⟩ := I.slots k d' hk
    exact ⟨x, by simp [Act.put, Array.getElem?_setIfInBounds_ne e, hx], hrx⟩

theorem Inv.set (I : Inv w0 B C0 n S C a w) {dst : Option Nat} {d : D} {u : Value} (ht : ∀ t, dst = some t → t < n) (hr : Rep C w d u) : Inv w0 B C0 n (S.set dst d) C (a.put dst u) w := by
  cases dst with
  | none => exact I
  | some t => exact I.put (ht t rfl) hr

/-- a world that differs in what nobody names -/
theorem Inv.quiet (I : Inv w0 B C0 n S C a w) {w' : World} (hh : w'.heap = w.heap) (h1 : w'.os = w.os) (h2 : w'.tape = w.tape) (h3 : w'.output = w.output) : Inv w0 B C0 n S C a w' := by
  have e : Ext C w C w' := ⟨fun _ _ _ h => h, fun _ _ h => h, fun b _ _ => by rw [hh], by rw [hh]; exact Nat.le_refl _⟩
  refine ⟨I.size, I.defers, fun k d hk => ?_, fun s g b hb => (I.heap s g b hb).keep e id (fun _ _ _ _ _ => by rw [hh]), I.mine, I.apart, fun s g u b hv hl hb => by rw [hh]; exact I.bound s g u b hv hl hb, I.fresh,
    ⟨h1.trans I.frame.os, h2.trans I.frame.tape, h3.trans I.frame.output, by rw [hh]; exact I.frame.size, fun b hb hn => by rw [hh]; exact I.frame.block b hb hn⟩, I.old, I.owned, I.kept, I.ents, I.dead0, I.bound0⟩
  obtain ⟨u, hu, hr⟩ := I.slots k d hk
  exact ⟨u, hu, hr.mono e⟩

theorem Inv.newExt (I : Inv w0 B C0 n S C a w) {s g : Nat} {u : Value} (hg : C.val s g = none) (hu : blk u = some w.heap.size) (hp : Pushed w o w1) : Ext C w (C.add s g u) w1 where
  val := fun s' g' x hx => by
    simp only [Ctx.add]
    rw [if_neg]
    · exact hx
    · rintro ⟨rfl, rfl⟩; rw [hg] at hx; cases hx
  owns := fun b hb ⟨s', g', u', h1, h2, h3⟩ => by
    simp only [Ctx.add] at h1 h2
    split at h1
    · rename_i e
      simp only [Option.some.injEq] at h1
      subst h1
      rw [hu] at h3
      simp only [Option.some.injEq] at h3
      omega
    · rename_i e
      rw [if_neg e] at h2
      exact ⟨s', g', u', h1, h2, h3⟩
  heap := fun b hb _ => hp.old hb
  size := by rw [hp.size]; omega

theorem Inv.new (I : Inv w0 B C0 n S C a w) (s : Nat) (b : Blk) (u : Value) (hu : blk u = some w.heap.size) (hp : Pushed w o w1)
    (hH : ∀ C' g, Ext C w C' w1 → C'.val s g = some u → C'.live s g = true → HRep C' w1 s g b) :
    ∃ g C', Inv w0 B C0 n (S.hput s g b) C' a w1 ∧ C'.val s g = some u ∧ Ext C w C' w1 := by
  obtain ⟨N, hN⟩ := I.fresh s
  have hg := hN N (Nat.le_refl _)
  have e := I.newExt (o := o) hg hu hp
  have hv : (C.add s N u).val s N = some u := by simp [Ctx.add]
  have hl : (C.add s N u).live s N = true := by simp [Ctx.add]
  have old : ∀ s' g' x, (C.add s N u).val s' g' = some x → (s' = s ∧ g' = N ∧ x = u) ∨ (¬ (s' = s ∧ g' = N) ∧ C.val s' g' = some x) := fun s' g' x hx => by
    simp only [Ctx.add] at hx
    split at hx
    · rename_i h; simp only [Option.some.injEq] at hx; exact .inl ⟨h.1, h.2, hx.symm⟩
    · rename_i h; exact .inr ⟨h, hx⟩
  have oldl : ∀ s' g', ¬ (s' = s ∧ g' = N) → (C.add s N u).live s' g' = C.live s' g' := fun s' g' h => by simp only [Ctx.add]; rw [if_neg h]
  refine ⟨N, C.add s N u, ?_, hv, e⟩
  refine ⟨I.size, I.defers, fun k d hk => ?_, fun s' g' b' hb' => ?_, fun s' g' b' x u' hx hl' hv' hb' => ?_, fun s1 g1 u1 s2 g2 u2 b' h1 h2 h3 h4 h5 h6 => ?_, fun s' g' u' b' h1 h2 h3 => ?_,
    fun s' => ?_, ?_, fun s' g' x hx => e.val _ _ _ (I.old _ _ _ hx), fun b' hb' ho => I.owned b' hb' (e.owns b' (Nat.lt_of_lt_of_le hb' I.frame.size) ho), fun s' g' u' h1 h2 h4 => ?_, fun s' g' x y hx hy => ?_, fun s' g' x h1 h2 => ?_, I.bound0⟩
  · obtain ⟨x, hx, hr⟩ := I.slots k d hk
    exact ⟨x, hx, hr.mono e⟩
  · rw [look_hput] at hb'
    split at hb'
    · rename_i es
      subst es
      simp only [Option.some.injEq, Prod.mk.injEq] at hb'
      obtain ⟨rfl, rfl⟩ := hb'
      exact hH _ _ e hv hl
    · refine (I.heap s' g' b' hb').keep e (fun h => ?_) (fun u' k h1 h2 h3 => hp.old (I.bound _ _ _ _ h1 h2 h3))
      by_cases hs : s' = s ∧ g' = N
      · simp [Ctx.add, hs]
      · rw [oldl _ _ hs]; exact h
  · rw [look_hput] at hx
    rcases old s' g' u' hv' with ⟨rfl, rfl, rfl⟩ | ⟨hn, hv2⟩
    · rw [hu] at hb'
      simp only [Option.some.injEq] at hb'
      subst hb'
      exact .inl I.frame.size
    · rw [oldl _ _ hn] at hl'
      split at hx
      · rename_i es
        subst es
        simp only [Option.some.injEq, Prod.mk.injEq] at hx
        obtain ⟨rfl, rfl⟩ := hx
        exact absurd ⟨rfl, rfl⟩ hn
      · exact I.mine s' g' b' x u' hx hl' hv2 hb'
  · rcases old s1 g1 u1 h1 with ⟨rfl, rfl, rfl⟩ | ⟨hn1, hv1⟩
    · rcases old s2 g2 u2 h3 with ⟨rfl, rfl, rfl⟩ | ⟨hn2, hv2⟩
      · exact ⟨rfl, rfl⟩
      · rw [oldl _ _ hn2] at h4
        rw [hu] at h5
        simp only [Option.some.injEq] at h5
        have := I.bound s2 g2 u2 b' hv2 h4 h6
        omega
    · rw [oldl _ _ hn1] at h2
      rcases old s2 g2 u2 h3 with ⟨rfl, rfl, rfl⟩ | ⟨hn2, hv2⟩
      · rw [hu] at h6
        simp only [Option.some.injEq] at h6
        have := I.bound s1 g1 u1 b' hv1 h2 h5
        omega
      · rw [oldl _ _ hn2] at h4
        exact I.apart s1 g1 u1 s2 g2 u2 b' hv1 h2 hv2 h4 h5 h6
  · rw [hp.size]
    rcases old s' g' u' h1 with ⟨rfl, rfl, rfl⟩ | ⟨hn, hv2⟩
    · rw [hu] at h3
      simp only [Option.some.injEq] at h3
      omega
    · rw [oldl _ _ hn] at h2
      have := I.bound s' g' u' b' hv2 h2 h3
      omega
  · obtain ⟨M, hM⟩ := I.fresh s'
    refine ⟨max M (N + 1), fun g' hg' => ?_⟩
    simp only [Ctx.add]
    rw [if_neg (by omega)]
    exact hM g' (by omega)
  · exact ⟨hp.os.trans I.frame.os, hp.tape.trans I.frame.tape, hp.output.trans I.frame.output, by rw [hp.size]; have := I.frame.size; omega,
      fun b' hb' hnb => (hp.old (Nat.lt_of_lt_of_le hb' I.frame.size)).trans (I.frame.block b' hb' hnb)⟩
  · have hx := I.kept s' g' u' h1 h2 h4
    by_cases hs : s' = s ∧ g' = N
    · simp [Ctx.add, hs]
    · rw [oldl _ _ hs]; exact hx
  · rw [look_hput] at hx
    split at hx
    · rename_i es
      subst es
      simp only [Option.some.injEq, Prod.mk.injEq] at hx
      obtain ⟨rfl, rfl⟩ := hx
      have := I.old _ _ _ hy
      rw [hg] at this; cases this
    · exact I.ents s' g' x y hx hy
  · by_cases hs : s' = s ∧ g' = N
    · obtain ⟨rfl, rfl⟩ := hs
      have := I.old _ _ _ h1
      rw [hg] at this; cases this
    · rw [oldl _ _ hs] at h2
      exact I.dead0 _ _ _ h1 h2

/-- where the entries of a later state lie -/
def Trk (S : St) (C : Ctx) (w : World) (S' : St) (C' : Ctx) : Prop :=
  ∀ s g x u b, look S'.heap s = some (g, x) → C'.val s g = some u → blk u = some b → w.heap.size ≤ b ∨ ∃ g0 x0 u0, look S.heap s = some (g0, x0) ∧ C.val s g0 = some u0 ∧ blk u0 = some b
def NewAt (w : World) (S : St) (C : Ctx) (t : Nat) : Prop := ∀ g x u b, look S.heap t = some (g, x) → C.val t g = some u → blk u = some b → w.heap.size ≤ b

theorem hrep_val {C : Ctx} {w : World} {s g : Nat} {b : Blk} (h : HRep C w s g b) : ∃ x, C.val s g = some x := by
  cases b with
  | box cs => obtain ⟨_, _, _, h, _⟩ := h; exact ⟨_, h⟩
  | row e k es => obtain ⟨_, _, h, _⟩ := h; exact ⟨_, h⟩
  | froz k es => obtain ⟨_, h, _⟩ := h; exact ⟨_, h⟩
  | map es => obtain ⟨_, _, _, h, _⟩ := h; exact ⟨_, h⟩
  | bld t nr gr => obtain ⟨_, _, _, h, _⟩ := h; exact ⟨_, h⟩
  | brow e l => obtain ⟨_, h, _⟩ := h; exact ⟨_, h⟩

/-- the entries stay where they were -/
theorem Inv.trkSame (I : Inv w0 B C0 n S C a w) {S' : St} {C' : Ctx} (hv : ∀ s g x, C.val s g = some x → C'.val s g = some x) (hh : ∀ s g x, look S'.heap s = some (g, x) → ∃ x0, look S.heap s = some (g, x0)) : Trk S C w S' C' := by
  intro s g x u b hx hu hb
  obtain ⟨x0, h0⟩ := hh s g x hx
  obtain ⟨y, hy⟩ := hrep_val (I.heap s g x0 h0)
  have := hv s g y hy
  rw [hu] at this
  simp only [Option.some.injEq] at this
  subst this
  exact .inr ⟨g, x0, u, h0, hy, hb⟩

theorem Trk.new {S S' : St} {C C' C'' : Ctx} {t g : Nat} {y : Blk} {v : Value} {k : Nat} (h : Trk S C w S' C') (hv : ∀ s g x, C'.val s g = some x → C''.val s g = some x) (hS : ∀ s g x, look S'.heap s = some (g, x) → ∃ u, C'.val s g = some u) (hn : C''.val t g = some v) (hk : blk v = some k) (hw : w.heap.size ≤ k) :
    Trk S C w (S'.hput t g y) C'' ∧ NewAt w (S'.hput t g y) C'' t := by
  refine ⟨fun s g' x u b hx hu hb => ?_, fun g' x u b hx hu hb => ?_⟩
  · rw [look_hput] at hx
    split at hx
    · rename_i e
      subst e
      simp only [Option.some.injEq, Prod.mk.injEq] at hx
      obtain ⟨rfl, rfl⟩ := hx
      rw [hn] at hu
      simp only [Option.some.injEq] at hu
      subst hu
      rw [hk] at hb
      simp only [Option.some.injEq] at hb
      exact .inl (by omega)
    · obtain ⟨u', hu'⟩ := hS s g' x hx
      have := hv s g' u' hu'
      rw [hu] at this
      simp only [Option.some.injEq] at this
      subst this
      exact h s g' x u b hx hu' hb
  · rw [look_hput, if_pos rfl] at hx
    simp only [Option.some.injEq, Prod.mk.injEq] at hx
    obtain ⟨rfl, rfl⟩ := hx
    rw [hn] at hu
    simp only [Option.some.injEq] at hu
    subst hu
    rw [hk] at hb
    simp only [Option.some.injEq] at hb
    omega
end
end Go.Eng

namespace Go.Eng
variable {P : Program}

section
variable {w0 : World} {B : Nat → Nat → Prop} {C0 : Ctx} {n : Nat} {S : St} {C : Ctx} {a : Act} {w w1 : World} {o : Obj}

/-- the block of an entry is written -/
theorem Inv.write (I : Inv w0 B C0 n S C a w) {s g b : Nat} {x x' : Blk} {u : Value} (hx : look S.heap s = some (g, x)) (hv : C.val s g = some u) (hl : C.live s g = true) (hb : blk u = some b)
    {w' : World} (hw : ∀ k, k ≠ b → w'.heap[k]? = w.heap[k]?) (hs : w'.heap.size = w.heap.size) (h1 : w'.os = w.os) (h2 : w'.tape = w.tape) (h3 : w'.output = w.output)
    (hH : Ext C w C w' → HRep C w' s g x') : Inv w0 B C0 n (S.hput s g x') C a w' ∧ Ext C w C w' := by
  have e : Ext C w C w' := ⟨fun _ _ _ h => h, fun _ _ h => h, fun k _ hn => hw k (fun ek => hn ⟨s, g, u, hv, hl, ek ▸ hb⟩), Nat.le_of_eq hs.symm⟩
  refine ⟨⟨I.size, I.defers, fun k d hk => ?_, fun s' g' b' hb' => ?_, fun s' g' b' y u' hy hl' hv' hb' => ?_, I.apart, fun s' g' u' b' q1 q2 q3 => by rw [hs]; exact I.bound s' g' u' b' q1 q2 q3, I.fresh,
    ⟨h1.trans I.frame.os, h2.trans I.frame.tape, h3.trans I.frame.output, by rw [hs]; exact I.frame.size, fun b' hb' hnb => ?_⟩, I.old, I.owned, I.kept, fun s' g' y z hy hz => by
      rw [look_hput] at hy
      split at hy
      · rename_i es
        subst es
        simp only [Option.some.injEq, Prod.mk.injEq] at hy
        obtain ⟨rfl, rfl⟩ := hy
        exact I.ents _ _ _ z hx hz
      · exact I.ents s' g' y z hy hz, I.dead0, I.bound0⟩, e⟩
  · obtain ⟨y, hy, hr⟩ := I.slots k d hk
    exact ⟨y, hy, hr.mono e⟩
  · rw [look_hput] at hb'
    split at hb'
    · rename_i es
      subst es
      simp only [Option.some.injEq, Prod.mk.injEq] at hb'
      obtain ⟨rfl, rfl⟩ := hb'
      exact hH e
    · rename_i es
      refine (I.heap s' g' b' hb').keep e id (fun u' k q1 q2 q3 => hw k (fun ek => ?_))
      subst ek
      exact es (I.apart s g u s' g' u' k hv hl q1 q2 hb q3).1
  · rw [look_hput] at hy
    split at hy
    · rename_i es
      subst es
      simp only [Option.some.injEq, Prod.mk.injEq] at hy
      obtain ⟨rfl, rfl⟩ := hy
      exact I.mine s g b' x u' hx hl' hv' hb'
    · exact I.mine s' g' b' y u' hy hl' hv' hb'
  · refine (hw b' (fun eb => ?_)).trans (I.frame.block b' hb' hnb)
    subst eb
    rcases I.mine s g b' x u hx hl hv hb with h | h
    · omega
    · exact hnb h.1

theorem blk_own {v : Value} {m : Nat} {ao : Option Addr} {cap : Nat} (h : v = .slice ao m cap) : blk v = v.ownBlock := by subst h; cases ao <;> rfl

/-- a row has been appended to: it has a new name -/
theorem Inv.regrow (I : Inv w0 B C0 n S C a w) {s g : Nat} {x : Blk} {v v' : Value} (hx : look S.heap s = some (g, x)) (hv : C.val s g = some v) (hl : C.live s g = true) (hvo : blk v = v.ownBlock) (hvo' : blk v' = v'.ownBlock)
    {w' : World} (hg : w.grownBy w' v.ownBlock) (hat : v'.ownBlock = v.ownBlock ∨ v'.ownBlock = some w.heap.size) (hlt : ∀ k, v'.ownBlock = some k → k < w'.heap.size) {x' : Blk}
    (hH : ∀ C' g', Ext C w C' w' → C'.val s g' = some v' → C'.live s g' = true → HRep C' w' s g' x') :
    ∃ g' C', Inv w0 B C0 n (S.hput s g' x') C' a w' ∧ C'.val s g' = some v' ∧ Ext C w C' w' := by
  obtain ⟨N, hN⟩ := I.fresh s
  have hgN := hN N (Nat.le_refl _)
  have hne : ¬ (s = s ∧ g = N) := fun h => by rw [h.2, hgN] at hv; cases hv
  let C' : Ctx := (C.add s N v').kill s g
  have hv' : C'.val s N = some v' := by simp [C', Ctx.add, Ctx.kill]
  have hl' : C'.live s N = true := by
    have : ¬ (N = g) := fun h => hne ⟨rfl, h.symm⟩
    simp [C', Ctx.add, Ctx.kill, this]
  have old : ∀ s' g' y, C'.val s' g' = some y → (s' = s ∧ g' = N ∧ y = v') ∨ (¬ (s' = s ∧ g' = N) ∧ C.val s' g' = some y) := fun s' g' y hy => by
    simp only [C', Ctx.add, Ctx.kill] at hy
    split at hy
    · rename_i h; simp only [Option.some.injEq] at hy; exact .inl ⟨h.1, h.2, hy.symm⟩
    · rename_i h; exact .inr ⟨h, hy⟩
  have oldl : ∀ s' g', ¬ (s' = s ∧ g' = N) → C'.live s' g' = true → C.live s' g' = true ∧ ¬ (s' = s ∧ g' = g) := fun s' g' h hh => by
    simp only [C', Ctx.add, Ctx.kill] at hh
    split at hh
    · cases hh
    · rename_i h2
      try rw [if_neg h] at hh
      exact ⟨hh, h2⟩
  have livek : ∀ s' g', C.live s' g' = true → ¬ (s' = s ∧ g' = g) → C'.live s' g' = true := fun s' g' h h2 => by
    simp only [C', Ctx.add, Ctx.kill]
    rw [if_neg h2]
    split
    · rfl
    · exact h
  have e : Ext C w C' w' := by
    refine ⟨fun s' g' y hy => ?_, fun b hb ho => ?_, fun b hb hn => hg.block b hb (fun eb => hn ⟨s, g, v, hv, hl, by rw [hvo]; exact eb.symm⟩), hg.size⟩
    · simp only [C', Ctx.add, Ctx.kill]
      rw [if_neg]
      · exact hy
      · rintro ⟨rfl, rfl⟩; rw [hgN] at hy; cases hy
    · obtain ⟨s', g', u', q1, q2, q3⟩ := ho
      rcases old s' g' u' q1 with ⟨rfl, rfl, rfl⟩ | ⟨hn, q1'⟩
      · rw [hvo'] at q3
        rcases hat with h | h
        · exact ⟨s', g, v, hv, hl, by rw [hvo, ← h]; exact q3⟩
        · rw [h] at q3
          simp only [Option.some.injEq] at q3
          omega
      · exact ⟨s', g', u', q1', (oldl _ _ hn q2).1, q3⟩
  refine ⟨N, C', ⟨I.size, I.defers, fun k d hk => ?_, fun s' g' b' hb' => ?_, fun s' g' b' y u' hy hl2 hv2 hb' => ?_, fun s1 g1 u1 s2 g2 u2 b' q1 q2 q3 q4 q5 q6 => ?_, fun s' g' u' b' q1 q2 q3 => ?_,
    fun s' => ?_, ⟨hg.os.trans I.frame.os, hg.tape.trans I.frame.tape, hg.output.trans I.frame.output, Nat.le_trans I.frame.size hg.size, fun b' hb' hnb => ?_⟩, fun s' g' y hy => e.val _ _ _ (I.old _ _ _ hy),
    fun b' hb' ho => I.owned b' hb' (e.owns b' (Nat.lt_of_lt_of_le hb' I.frame.size) ho), fun s' g' u' q1 q2 q4 => ?_, fun s' g' y z hy hz => by
      rw [look_hput] at hy
      split at hy
      · rename_i es
        subst es
        simp only [Option.some.injEq, Prod.mk.injEq] at hy
        obtain ⟨rfl, rfl⟩ := hy
        have := I.old _ _ _ hz
        rw [hgN] at this; cases this
      · exact I.ents s' g' y z hy hz, fun s' g' y q1 q2 => ?_, I.bound0⟩, hv', e⟩
  · obtain ⟨y, hy, hr⟩ := I.slots k d hk
    exact ⟨y, hy, hr.mono e⟩
  · rw [look_hput] at hb'
    split at hb'
    · rename_i es
      subst es
      simp only [Option.some.injEq, Prod.mk.injEq] at hb'
      obtain ⟨rfl, rfl⟩ := hb'
      exact hH _ _ e hv' hl'
    · rename_i es
      refine (I.heap s' g' b' hb').keep e (fun h => livek _ _ h (fun h2 => es h2.1.symm)) (fun u' k q1 q2 q3 => hg.block k (I.bound _ _ _ _ q1 q2 q3) (fun ek => ?_))
      have := I.apart s g v s' g' u' k hv hl q1 q2 (by rw [hvo]; exact ek.symm) q3
      exact es this.1
  · rw [look_hput] at hy
    split at hy
    · rename_i es
      subst es
      simp only [Option.some.injEq, Prod.mk.injEq] at hy
      obtain ⟨rfl, rfl⟩ := hy
      rw [hv'] at hv2
      simp only [Option.some.injEq] at hv2
      subst hv2
      rw [hvo'] at hb'
      rcases hat with h | h
      · exact I.mine s g b' x v hx hl hv (by rw [hvo, ← h]; exact hb')
      · rw [h] at hb'
        simp only [Option.some.injEq] at hb'
        have := I.frame.size
        exact .inl (by omega)
    · rename_i es
      have hn : ¬ (s' = s ∧ g' = N) := fun h => es h.1.symm
      rcases old s' g' u' hv2 with h | ⟨_, hv3⟩
      · exact absurd ⟨h.1, h.2.1⟩ hn
      · exact I.mine s' g' b' y u' hy (oldl _ _ hn hl2).1 hv3 hb'
  · have newblk : ∀ k, v'.ownBlock = some k → ∀ s3 g3 u3, C.val s3 g3 = some u3 → C.live s3 g3 = true → ¬ (s3 = s ∧ g3 = g) → blk u3 ≠ some k := fun k hk s3 g3 u3 p1 p2 p3 p4 => by
      rcases hat with h | h
      · exact p3 (by have := I.apart s3 g3 u3 s g v k p1 p2 hv hl p4 (by rw [hvo, ← h]; exact hk); exact this)
      · rw [h] at hk
        simp only [Option.some.injEq] at hk
        have := I.bound s3 g3 u3 k p1 p2 p4
        omega
    rcases old s1 g1 u1 q1 with ⟨rfl, rfl, rfl⟩ | ⟨hn1, q1'⟩
    · rcases old s2 g2 u2 q3 with ⟨rfl, rfl, rfl⟩ | ⟨hn2, q3'⟩
      · exact ⟨rfl, rfl⟩
      · obtain ⟨p1, p2⟩ := oldl _ _ hn2 q4
        exact absurd q6 (newblk b' (by rw [← hvo']; exact q5) s2 g2 u2 q3' p1 p2)
    · obtain ⟨p1, p2⟩ := oldl _ _ hn1 q2
      rcases old s2 g2 u2 q3 with ⟨rfl, rfl, rfl⟩ | ⟨hn2, q3'⟩
      · exact absurd q5 (newblk b' (by rw [← hvo']; exact q6) s1 g1 u1 q1' p1 p2)
      · exact I.apart s1 g1 u1 s2 g2 u2 b' q1' p1 q3' (oldl _ _ hn2 q4).1 q5 q6
  · rcases old s' g' u' q1 with ⟨rfl, rfl, rfl⟩ | ⟨hn, q1'⟩
    · exact hlt b' (by rw [← hvo']; exact q3)
    · exact Nat.lt_of_lt_of_le (I.bound s' g' u' b' q1' (oldl _ _ hn q2).1 q3) hg.size
  · obtain ⟨M, hM⟩ := I.fresh s'
    refine ⟨max M (N + 1), fun g' hg' => ?_⟩
    simp only [C', Ctx.add, Ctx.kill]
    rw [if_neg (by omega)]
    exact hM g' (by omega)
  · refine (hg.block b' (Nat.lt_of_lt_of_le hb' I.frame.size) (fun eb => ?_)).trans (I.frame.block b' hb' hnb)
    rcases I.mine s g b' x v hx hl hv (by rw [hvo]; exact eb.symm) with h | h
    · omega
    · exact hnb h.1
  · refine livek _ _ (I.kept s' g' u' q1 q2 q4) (fun h => ?_)
    obtain ⟨rfl, rfl⟩ := h
    exact q4 (I.ents _ _ _ _ hx q1)
  · by_cases hs : s' = s ∧ g' = N
    · obtain ⟨rfl, rfl⟩ := hs
      have := I.old _ _ _ q1
      rw [hgN] at this; cases this
    · exact I.dead0 _ _ _ q1 (oldl _ _ hs q2).1

/-- an own row reads as data in a context that does not own its block -/
theorem row_rep {C1 : Ctx} {w1 : World} {s g e k : Nat} {es : List (List D)} {u : Value} (h : HRep C w s g (.row e k es)) (hv : C.val s g = some u) (ext : Ext C w C1 w1) (hn : ∀ b, blk u = some b → ¬ C1.owns b ∧ w1.heap[b]? = w.heap[b]?) :
    Rep C1 w1 (.sl k es) u := by
  obtain ⟨u', xs, hv', hl, hown, hk, hall⟩ := h
  rw [hv] at hv'
  simp only [Option.some.injEq] at hv'
  subst hv'
  rcases hown.2 with ⟨rfl, h0⟩ | ⟨gb, cap, cur, rfl, _, hg, hnc, hcm, hcs, htake⟩
  · have : es = [] := List.eq_nil_of_length_eq_zero h0
    subst this
    exact .slE _ _ _ (by simp)
  · refine .sl k es gb 0 cap (fun i j => xs.getD (i * k + j) undef) hnc hcm hk (fun i j e' c hi hj => ?_) (fun i j e' c hi hj => ?_)
    all_goals
      have hlen : e'.length = k := hk _ (List.mem_of_getElem? hi)
      have h1 : j < k := by rw [← hlen]; exact (List.getElem?_eq_some_iff.1 hj).1
      have h2 : i < es.length := (List.getElem?_eq_some_iff.1 hi).1
      have h3 : i * k + j < xs.length := by
        rw [hown.1]
        calc i * k + j < i * k + k := by omega
          _ = (i + 1) * k := by rw [Nat.add_mul]; omega
          _ ≤ es.length * k := Nat.mul_le_mul_right _ h2
      have hxx : xs[i * k + j]? = some (xs[i * k + j]) := List.getElem?_eq_getElem h3
      have hgd : xs.getD (i * k + j) undef = xs[i * k + j] := by simp [List.getD, hxx]
    · obtain ⟨n1, n2⟩ := hn gb rfl
      refine ⟨n1, ?_⟩
      have hcell := hown.cells (g := gb) rfl _ _ hxx
      rw [Addr.add_lit] at hcell
      rw [hgd]
      exact (World.cell?_of_block n2).trans hcell
    · rw [hgd]
      exact ((hall i j e' c _ hi hj hxx).1).mono ext

/-- an own row is frozen: it may be read from now on, under any name -/
theorem Inv.freeze (I : Inv w0 B C0 n S C a w) {s g e k : Nat} {es : List (List D)} (hx : look S.heap s = some (g, .row e k es)) :
    Inv w0 B C0 n (S.hput s g (.froz k es)) (C.kill s g) a w ∧ Ext C w (C.kill s g) w := by
  obtain ⟨u, xs, hv, hl, hown, hk, hall⟩ := I.heap s g _ hx
  have ext : Ext C w (C.kill s g) w := by
    refine ⟨fun _ _ _ h => h, fun b _ ⟨s', g', u', q1, q2, q3⟩ => ?_, fun _ _ _ => rfl, Nat.le_refl _⟩
    simp only [Ctx.kill] at q1 q2
    split at q2
    · cases q2
    · exact ⟨s', g', u', q1, q2, q3⟩
  have lv : ∀ s' g', (C.kill s g).live s' g' = true → C.live s' g' = true ∧ ¬ (s' = s ∧ g' = g) := fun s' g' h => by
    simp only [Ctx.kill] at h
    split at h
    · cases h
    · rename_i h2; exact ⟨h, h2⟩
  have lv2 : ∀ s' g', C.live s' g' = true → ¬ (s' = s ∧ g' = g) → (C.kill s g).live s' g' = true := fun s' g' h h2 => by
    simp only [Ctx.kill]; rw [if_neg h2]; exact h
  refine ⟨⟨I.size, I.defers, fun k d hk => ?_, fun s' g' b' hb' => ?_, fun s' g' b' y u' hy q1 q2 q3 => ?_, fun s1 g1 u1 s2 g2 u2 b' q1 q2 q3 q4 q5 q6 => I.apart _ _ _ _ _ _ _ q1 (lv _ _ q2).1 q3 (lv _ _ q4).1 q5 q6,
    fun s' g' u' b' q1 q2 q3 => I.bound _ _ _ _ q1 (lv _ _ q2).1 q3, I.fresh, I.frame, I.old, fun b hb ho => I.owned b hb (ext.owns b (Nat.lt_of_lt_of_le hb I.frame.size) ho), fun s' g' u' q1 q2 q4 => ?_, fun s' g' y z hy hz => by
      rw [look_hput] at hy
      split at hy
      · rename_i es
        subst es
        simp only [Option.some.injEq, Prod.mk.injEq] at hy
        obtain ⟨rfl, rfl⟩ := hy
        exact I.ents _ _ _ z hx hz
      · exact I.ents s' g' y z hy hz, fun s' g' y q1 q2 => I.dead0 _ _ _ q1 (lv _ _ q2).1, I.bound0⟩, ext⟩
  · obtain ⟨y, hy, hr⟩ := I.slots k d hk
    exact ⟨y, hy, hr.mono ext⟩
  · rw [look_hput] at hb'
    split at hb'
    · rename_i eqs
      subst eqs
      simp only [Option.some.injEq, Prod.mk.injEq] at hb'
      obtain ⟨rfl, rfl⟩ := hb'
      refine ⟨u, hv, row_rep (I.heap s g _ hx) hv ext (fun b hb => ⟨fun ⟨s', g', u', q1, q2, q3⟩ => ?_, rfl⟩)⟩
      obtain ⟨p1, p2⟩ := lv _ _ q2
      exact p2 (I.apart s' g' u' s g _ b q1 p1 hv hl q3 hb)
    · rename_i eqs
      exact (I.heap s' g' b' hb').keep ext (fun h => lv2 _ _ h (fun h2 => eqs h2.1.symm)) (fun _ _ _ _ _ => rfl)
  · obtain ⟨p1, p2⟩ := lv _ _ q1
    rw [look_hput] at hy
    split at hy
    · rename_i eqs
      subst eqs
      simp only [Option.some.injEq, Prod.mk.injEq] at hy
      exact absurd ⟨rfl, hy.1.symm⟩ p2
    · exact I.mine s' g' b' y u' hy p1 q2 q3
  · refine lv2 _ _ (I.kept s' g' u' q1 q2 q4) (fun h => ?_)
    obtain ⟨rfl, rfl⟩ := h
    exact q4 (I.ents _ _ _ _ hx q1)
end
end Go.Eng

namespace Go.Eng
variable {P : Program}

/-! freezing what is put into a list -/
def frz1 (S : St) (c : D) (k : St → D → Prop) : Prop :=
  match c with
  | .own s g =>
    match rowOf S s g with
    | some (_, k', es) => k (S.hput s g (.froz k' es)) (.sl k' es)
    | none =>
      match frozOf S s g with
      | some (k', es) => k S (.sl k' es)
      | none => False
  | c => k S c
def frzK : St → List D → (St → List D → Prop) → Prop
  | S, [], k => k S []
  | S, c :: cs, k => frz1 S c fun S' c' => frzK S' cs fun S'' cs' => k S'' (c' :: cs')
def frzL : St → List (List D) → (St → List (List D) → Prop) → Prop
  | S, [], k => k S []
  | S, e :: es, k => frzK S e fun S' e' => frzL S' es fun S'' es' => k S'' (e' :: es')

section
variable {w0 : World} {B : Nat → Nat → Prop} {C0 : Ctx} {n : Nat} {S : St} {C : Ctx} {a : Act} {w : World}

theorem frz1_ok (I : Inv w0 B C0 n S C a w) {c : D} {k : St → D → Prop} (h : frz1 S c k) :
    ∃ S' c' C', k S' c' ∧ Inv w0 B C0 n S' C' a w ∧ (Ext C w C' w ∧ ∀ s g x, look S'.heap s = some (g, x) → ∃ x0, look S.heap s = some (g, x0)) ∧ ∀ u, Rep C w c u → Rep C' w c' u := by
  have same : k S c → ∃ S' c' C', k S' c' ∧ Inv w0 B C0 n S' C' a w ∧ (Ext C w C' w ∧ ∀ s g x, look S'.heap s = some (g, x) → ∃ x0, look S.heap s = some (g, x0)) ∧ ∀ u, Rep C w c u → Rep C' w c' u := fun h => ⟨S, c, C, h, I, ⟨Ext.refl _ _, fun _ _ x h => ⟨x, h⟩⟩, fun _ h => h⟩
  cases c with
  | own s g =>
    simp only [frz1] at h
    split at h
    · rename_i e k' es hr
      obtain ⟨I', e'⟩ := I.freeze (rowOf_spec hr)
      refine ⟨_, _, _, h, I', ⟨e', fun s' g' x hx => by
        rw [look_hput] at hx
        split at hx
        · rename_i e1
          subst e1
          simp only [Option.some.injEq, Prod.mk.injEq] at hx
          obtain ⟨rfl, rfl⟩ := hx
          exact ⟨_, rowOf_spec hr⟩
        · exact ⟨x, hx⟩⟩, fun u hu => ?_⟩
      cases hu with
      | own _ _ _ hv _ =>
        have hl : look (S.hput s g (.froz k' es)).heap s = some (g, .froz k' es) := by rw [look_hput, if_pos rfl]
        obtain ⟨u', hv', hrep⟩ := I'.heap s g _ hl
        rw [e'.val _ _ _ hv] at hv'
        simp only [Option.some.injEq] at hv'
        subst hv'
        exact hrep
    · split at h
      · rename_i k' es hf
        refine ⟨S, _, C, h, I, ⟨Ext.refl _ _, fun _ _ x h => ⟨x, h⟩⟩, fun u hu => ?_⟩
        cases hu with
        | own _ _ _ hv _ =>
          obtain ⟨u', hv', hrep⟩ := I.heap s g _ (frozOf_spec hf)
          rw [hv] at hv'
          simp only [Option.some.injEq] at hv'
          subst hv'
          exact hrep
      · exact h.elim
  | _ => exact same h

theorem frz1_one {S : St} {c : D} {k : St → D → Prop} (hc : oneD c = true) (h : frz1 S c k) : frz1 S c fun S' c' => oneD c' = true ∧ k S' c' := by
  cases c with
  | own s g =>
    unfold frz1 at h ⊢
    simp only at h ⊢
    cases hr : rowOf S s g with
    | some x =>
      obtain ⟨e, k', es⟩ := x
      rw [hr] at h
      exact ⟨rfl, h⟩
    | none =>
      rw [hr] at h
      simp only at h ⊢
      cases hf : frozOf S s g with
      | some x =>
        obtain ⟨k', es⟩ := x
        rw [hf] at h
        exact ⟨rfl, h⟩
      | none => rw [hf] at h; exact h.elim
  | _ => exact ⟨hc, h⟩

theorem frzK_ok : ∀ {cs : List D} {S : St} {C : Ctx} (_ : Inv w0 B C0 n S C a w) {k : St → List D → Prop}, (∀ c ∈ cs, oneD c = true) → frzK S cs k →
    ∃ S' cs' C', k S' cs' ∧ Inv w0 B C0 n S' C' a w ∧ (Ext C w C' w ∧ ∀ s g x, look S'.heap s = some (g, x) → ∃ x0, look S.heap s = some (g, x0)) ∧ cs'.length = cs.length ∧ (∀ c ∈ cs', oneD c = true) ∧
      ∀ us : List Value, (∀ (j : Nat) c u, cs[j]? = some c → us[j]? = some u → Rep C w c u) → ∀ (j : Nat) c u, cs'[j]? = some c → us[j]? = some u → Rep C' w c u := by
  intro cs
  induction cs with
  | nil => intro S C I k _ h; exact ⟨S, [], C, h, I, ⟨Ext.refl _ _, fun _ _ x h => ⟨x, h⟩⟩, rfl, fun _ h => absurd h (by simp), fun us _ j c u hc _ => by simp at hc⟩
  | cons c cs ih =>
    intro S C I k h1 h
    obtain ⟨S1, c1, C1, hk1, I1, ⟨e1, t1⟩, hr1⟩ := frz1_ok I (frz1_one (h1 c (by simp)) h)
    obtain ⟨S2, cs2, C2, hk2, I2, ⟨e2, t2⟩, hl2, ho2, hr2⟩ := ih I1 (fun c hc => h1 c (by simp [hc])) hk1.2
    refine ⟨S2, c1 :: cs2, C2, hk2, I2, ⟨e1.trans e2, fun s g x h => (by obtain ⟨x1, h1⟩ := t2 s g x h; exact t1 s g x1 h1)⟩, by simp [hl2], fun d hd => ?_, fun us hus j d u hd hu => ?_⟩
    · rcases List.mem_cons.1 hd with rfl | hd
      · exact hk1.1
      · exact ho2 d hd
    · cases us with
      | nil => simp at hu
      | cons u0 us =>
        cases j with
        | zero =>
          simp at hd hu; subst hd; subst hu
          exact (hr1 _ (hus 0 c _ rfl rfl)).mono e2
        | succ j =>
          exact hr2 us (fun j c u hc hu => (hus (j + 1) c u (by simpa using hc) (by simpa using hu)).mono e1) j d u (by simpa using hd) (by simpa using hu)

theorem frzL_ok : ∀ {es : List (List D)} {S : St} {C : Ctx} (_ : Inv w0 B C0 n S C a w) {k : St → List (List D) → Prop}, (∀ e ∈ es, ∀ c ∈ e, oneD c = true) → frzL S es k →
    ∃ S' es' C', k S' es' ∧ Inv w0 B C0 n S' C' a w ∧ (Ext C w C' w ∧ ∀ s g x, look S'.heap s = some (g, x) → ∃ x0, look S.heap s = some (g, x0)) ∧ es'.map List.length = es.map List.length ∧ (∀ e ∈ es', ∀ c ∈ e, oneD c = true) ∧
      ∀ us : List (List Value), (∀ (i j : Nat) e c us' u, es[i]? = some e → e[j]? = some c → us[i]? = some us' → us'[j]? = some u → Rep C w c u) →
        ∀ (i j : Nat) e c us' u, es'[i]? = some e → e[j]? = some c → us[i]? = some us' → us'[j]? = some u → Rep C' w c u := by
  intro es
  induction es with
  | nil => intro S C I k _ h; exact ⟨S, [], C, h, I, ⟨Ext.refl _ _, fun _ _ x h => ⟨x, h⟩⟩, rfl, fun _ h => absurd h (by simp), fun us _ i j e c us' u he _ _ _ => by simp at he⟩
  | cons e es ih =>
    intro S C I k h1 h
    obtain ⟨S1, e1', C1, hk1, I1, ⟨e1, t1⟩, hl1, ho1, hr1⟩ := frzK_ok I (h1 e (by simp)) h
    obtain ⟨S2, es2, C2, hk2, I2, ⟨e2, t2⟩, hl2, ho2, hr2⟩ := ih I1 (fun e he => h1 e (by simp [he])) hk1
    refine ⟨S2, e1' :: es2, C2, hk2, I2, ⟨e1.trans e2, fun s g x h => (by obtain ⟨x1, h1⟩ := t2 s g x h; exact t1 s g x1 h1)⟩, by simp [hl1, hl2], fun d hd => ?_, fun us hus i j d c us' u hd hc hu' hu => ?_⟩
    · rcases List.mem_cons.1 hd with rfl | hd
      · exact ho1
      · exact ho2 d hd
    · cases us with
      | nil => simp at hu'
      | cons u0 us =>
        cases i with
        | zero =>
          simp at hd hu'; subst hd; subst hu'
          exact (hr1 _ (fun j c u hc hu => hus 0 j e c _ u rfl hc rfl hu) j c u hc hu).mono e2
        | succ i =>
          exact hr2 us (fun i j e c us' u he hc hu' hu => (hus (i + 1) j e c us' u (by simpa using he) hc (by simpa using hu') hu).mono e1) i j d c us' u (by simpa using hd) hc (by simpa using hu') hu
end

/-- behind a step that makes memory, and keeps all that was there; its entry is at site t -/
def NextT (w0 : World) (B : Nat → Nat → Prop) (C0 : Ctx) (n : Nat) (K : St → Prop) (S : St) (C : Ctx) (w : World) (t : Nat) : Act → World → Prop :=
  fun a w' => ∃ S' C', K S' ∧ Inv w0 B C0 n S' C' a w' ∧ Same w w' ∧ Trk S C w S' C' ∧ NewAt w S' C' t
def NextOk (w0 : World) (B : Nat → Nat → Prop) (C0 : Ctx) (n : Nat) (K : St → Prop) : Act → World → Prop := fun a w => ∃ S C, K S ∧ Inv w0 B C0 n S C a w

def dstOk (n : Nat) (dst : Option Nat) : Prop := match dst with | some t => t < n | none => True
theorem dstOk_spec {n : Nat} {dst : Option Nat} (h : dstOk n dst) : ∀ t, dst = some t → t < n := by rintro t rfl; exact h

section
variable {w0 : World} {B : Nat → Nat → Prop} {C0 : Ctx} {n : Nat} {S : St} {C : Ctx} {a : Act} {w : World}

theorem wp_val {o : Oper} {u : Value} {w' : World} {N : Act → World → Prop} {Q : Exit → Act → World → Prop} (hr : (execOp a.eval o).run P w = .ok (.value u) w') (h : N (a.put o.dst u) w') : o.wp P a w N Q := by
  unfold Oper.wp; rw [hr]; exact h
theorem wp_skp {o : Oper} {w' : World} {N : Act → World → Prop} {Q : Exit → Act → World → Prop} (hr : (execOp a.eval o).run P w = .ok .skip w') (h : N (a.put o.dst undef) w') : o.wp P a w N Q := by
  unfold Oper.wp; rw [hr]; exact h

theorem quiet_step (I : Inv w0 B C0 n S C a w) {o : Oper} {K : St → Prop} (hd : dstOk n o.dst) (h : qK P true S o.op fun d => K (S.set o.dst d)) (Q : Exit → Act → World → Prop) : o.wp P a w (NextOk w0 B C0 n K) Q := by
  obtain ⟨d, hk, hr⟩ := q_ok I h
  obtain ⟨u, hu, hrun⟩ := hr rfl
  exact wp_val (hrun w (fun _ => Same.refl w)) ⟨_, C, hk, I.set (dstOk_spec hd) hu⟩

/-- a new box -/
theorem Inv.newBox (I : Inv w0 B C0 n S C a w) {t ty : Nat} {cs : List D} {us : Array Value} (ht : t < n) (hc : Cells C w cs us.toList) (h1 : ∀ c ∈ cs, oneD c = true) :
    ∃ g C', Inv w0 B C0 n ((S.hput t g (.box cs)).put t (.ptr t g 0)) C' (a.put (some t) (.pointer (some ⟨w.heap.size, 0, none⟩))) (w.alloc (.cells us ty)) ∧
      Trk S C w ((S.hput t g (.box cs)).put t (.ptr t g 0)) C' ∧ NewAt w ((S.hput t g (.box cs)).put t (.ptr t g 0)) C' t := by
  obtain ⟨g, C', I', hv, e⟩ := I.new t (.box cs) (.pointer (some ⟨w.heap.size, 0, none⟩)) rfl (Pushed.alloc w (.cells us ty)) (fun C' g e hv hl =>
    ⟨w.heap.size, us, ty, hv, hl, heap_alloc_new w _, by rw [← hc.1]; simp, fun j c u hj hu => ⟨(hc.2 j c u hj (by simpa using hu)).mono e, (hc.2 j c u hj (by simpa using hu)).oneV (h1 c (List.mem_of_getElem? hj))⟩⟩)
  exact ⟨g, C', I'.put ht (.ptr t g 0 _ hv), Trk.new (I.trkSame (fun _ _ _ h => h) (fun _ _ x h => ⟨x, h⟩)) e.val (fun s g x h => hrep_val (I.heap s g x h)) hv rfl (Nat.le_refl _)⟩

theorem zeroOf_spec {t : TypeId} {zs : List Value} (h : zeroOf P t = some zs) : ∃ i z, P.info? t = some i ∧ i.zero = some z ∧ z.cells.toList = zs ∧ z.cells.size = i.size := by
  unfold zeroOf at h
  split at h
  · rename_i i hi
    split at h
    · rename_i z hz
      split at h
      · rename_i hs
        simp only [Option.some.injEq] at h
        exact ⟨i, z, hi, hz, h, hs⟩
      · cases h
    · cases h
  · cases h

theorem alloc_step (I : Inv w0 B C0 n S C a w) {o : Oper} {t : TypeId} {t' : Nat} {zs : List Value} {K : St → Prop} (ho : o.op = .alloc t) (hd : o.dst = some t') (ht : t' < n) (hz : zeroOf P t = some zs) (h1 : zs.all Value.oneCell' = true)
    (h : ∀ g, K ((S.hput t' g (.box (zs.map .v))).put t' (.ptr t' g 0))) (Q : Exit → Act → World → Prop) : o.wp P a w (NextT w0 B C0 n K S C w t') Q := by
  obtain ⟨i, z, hi, hz1, rfl, _⟩ := zeroOf_spec hz
  obtain ⟨g, C', I', q1, q2⟩ := I.newBox (ty := t) (us := z.cells) ht (Cells.vals (C := C) (w := w) z.cells.toList) (fun c hc => by
    rw [List.mem_map] at hc
    obtain ⟨x, hx, rfl⟩ := hc
    exact List.all_eq_true.1 h1 x hx)
  refine wp_val (u := .pointer (some ⟨w.heap.size, 0, none⟩)) (w' := w.alloc (.cells z.cells t)) ?_ ?_
  · simp [execOp, ho, Instr.alloc, zeroValue, typeInfo, hi, hz1, newVar, newRow]
  · rw [hd]; exact ⟨_, C', h g, I', Same.alloc _ _, q1, q2⟩

theorem box_step (I : Inv w0 B C0 n S C a w) {o : Oper} {t : TypeId} {x : Operand} {t' : Nat} {K : St → Prop} (ho : o.op = .box t x) (hd : o.dst = some t') (ht : t' < n)
    (h : evK true S x fun d => cellOk d = true ∧ (∀ c ∈ cellsOfD d, oneD c = true) ∧ ∀ g, K ((S.hput t' g (.box (cellsOfD d))).put t' (.ptr t' g 0))) (Q : Exit → Act → World → Prop) : o.wp P a w (NextT w0 B C0 n K S C w t') Q := by
  obtain ⟨d, ⟨h1, h2, h3⟩, hr⟩ := evK_ok I h
  have hc := Cells.of_rep h1 (hr rfl)
  obtain ⟨g, C', I', q1, q2⟩ := I.newBox (ty := t) (us := (a.eval x).cells) ht hc h2
  refine wp_val (u := .pointer (some ⟨w.heap.size, 0, none⟩)) (w' := w.alloc (.cells (a.eval x).cells t)) ?_ ?_
  · simp [execOp, ho, Instr.box, newVar, newRow]
  · rw [hd]; exact ⟨_, C', h3 g, I', Same.alloc _ _, q1, q2⟩
end
end Go.Eng

namespace Go.Eng
variable {P : Program}

theorem flatten_get {α : Type} {k : Nat} : ∀ {L : List (List α)}, (∀ l ∈ L, l.length = k) → ∀ (i j : Nat), j < k → L.flatten[i * k + j]? = (L[i]?).bind (·[j]?)
  | [], _, i, j, _ => by simp
  | l :: L, h, i, j, hj => by
    have hl : l.length = k := h l (by simp)
    rw [List.flatten_cons, List.getElem?_append]
    cases i with
    | zero => rw [if_pos (by omega)]; simp
    | succ i =>
      rw [if_neg (by rw [hl, Nat.add_mul]; omega), hl]
      have := flatten_get (L := L) (fun l hl => h l (by simp [hl])) i j hj
      rw [show (i + 1) * k + j - k = i * k + j from by rw [Nat.add_mul]; omega]
      simpa using this

theorem flatten_len {α : Type} {k : Nat} : ∀ {L : List (List α)}, (∀ l ∈ L, l.length = k) → L.flatten.length = L.length * k
  | [], _ => by simp
  | l :: L, h => by
    rw [List.flatten_cons, List.length_append, h l (by simp), flatten_len (fun l hl => h l (by simp [hl])), List.length_cons, Nat.add_mul]; omega

theorem fill_seq {size : Nat} : ∀ (us : List Value) (i0 : Nat) (arr : Array Value), (∀ u ∈ us, u.cells.size = size) → (i0 + us.length) * size ≤ arr.size →
    ∃ r, Instr.fill (fun i => some (i * size, size)) arr ((us.zipIdx i0).map fun p => (p.2, p.1)) = some r ∧
      r.toList = arr.toList.take (i0 * size) ++ ((us.map fun u => u.cells.toList).flatten ++ arr.toList.drop ((i0 + us.length) * size)) := by
  intro us
  induction us with
  | nil => intro i0 arr _ _; exact ⟨arr, rfl, by simp⟩
  | cons u us ih =>
    intro i0 arr h hle
    simp only [List.length_cons] at hle
    have hu : u.cells.size = size := h u (by simp)
    have h1 : i0 * size + u.cells.size ≤ arr.size := by
      rw [hu]
      calc i0 * size + size = (i0 + 1) * size := by rw [Nat.add_mul]; omega
        _ ≤ (i0 + (us.length + 1)) * size := Nat.mul_le_mul_right _ (by omega)
        _ ≤ arr.size := hle
    have hf := fold_set u.cells (i0 * size) arr h1
    generalize hA : u.cells.zipIdx.foldl (fun cs (x : Value × Nat) => cs.setIfInBounds (i0 * size + x.2) x.1) arr = arr1 at hf
    have hlen1 : arr1.size = arr.size := by
      have := congrArg List.length hf
      simp at this
      omega
    obtain ⟨r, hr, hr2⟩ := ih (i0 + 1) arr1 (fun v hv => h v (by simp [hv])) (by rw [hlen1, show i0 + 1 + us.length = i0 + (us.length + 1) from by omega]; exact hle)
    refine ⟨r, ?_, ?_⟩
    · simp only [List.zipIdx_cons, List.map_cons, Instr.fill]
      have hcn : (decide (u.cells.size ≠ size) || decide (i0 * size + u.cells.size > arr.size)) = false := by simp; omega
      simp only [hcn]
      have : Array.foldl (fun cs x => cs.setIfInBounds (i0 * size + x.snd) x.fst) arr u.cells.zipIdx = arr1 := hA
      simp only [Bool.false_eq_true, if_false]
      rw [this]
      exact hr
    · rw [hr2, hf]
      have e1 : (i0 + 1) * size = i0 * size + u.cells.toList.length := by rw [Nat.add_mul]; simp [hu]
      have e0 : (arr.toList.take (i0 * size)).length = i0 * size := by simp; omega
      rw [e1, ← List.append_assoc, ← List.append_assoc]
      rw [List.take_append_of_le_length (by simp [e0]), List.take_of_length_le (by simp; omega)]
      simp only [List.map_cons, List.flatten_cons, List.append_assoc]
      congr 2
      congr 1
      rw [← List.append_assoc, List.drop_append]
      have e2 : (arr.toList.take (i0 * size) ++ u.cells.toList).length = i0 * size + u.cells.toList.length := by simp [e0]
      have e3 : i0 * size + u.cells.toList.length ≤ (i0 + 1 + us.length) * size := by
        rw [← e1]; exact Nat.mul_le_mul_right _ (by omega)
      rw [List.drop_of_length_le (by rw [e2]; exact e3), e2, List.nil_append, List.drop_drop]
      rw [show i0 * size + u.cells.toList.length + ((i0 + 1 + us.length) * size - (i0 * size + u.cells.toList.length)) = (i0 + (us.length + 1)) * size from by
        rw [Nat.add_sub_cancel' e3]; congr 1; omega]
      simp

section
variable {w0 : World} {B : Nat → Nat → Prop} {C0 : Ctx} {n : Nat} {S : St} {C : Ctx} {a : Act} {w w1 : World} {o : Obj}

/-- a new row -/
theorem Inv.newRow (I : Inv w0 B C0 n S C a w) {t e k cap : Nat} {es : List (List D)} {L : List (List Value)} {cur : Array Value} (ht : t < n) (hlen : L.length = es.length) (hL : ∀ l ∈ L, l.length = k) (hE : ∀ x ∈ es, x.length = k)
    (hcur : cur.toList.take (es.length * k) = L.flatten) (hsz : cur.size = cap * k) (hcap : es.length ≤ cap) (hmax : cap ≤ maxLen)
    (hr : ∀ (i j : Nat) e' c us u, es[i]? = some e' → e'[j]? = some c → L[i]? = some us → us[j]? = some u → Rep C w c u) (h1 : ∀ e' ∈ es, ∀ c ∈ e', oneD c = true) (hp : Pushed w (.cells cur e) w1) :
    ∃ g C', Inv w0 B C0 n ((S.hput t g (.row e k es)).put t (.own t g)) C' (a.put (some t) (.slice (some ⟨w.heap.size, 0, none⟩) es.length cap)) w1 ∧
      ∀ S0 C00, Trk S0 C00 w S C → Trk S0 C00 w ((S.hput t g (.row e k es)).put t (.own t g)) C' ∧ NewAt w ((S.hput t g (.row e k es)).put t (.own t g)) C' t := by
  obtain ⟨g, C', I', hv, e'⟩ := I.new t (.row e k es) (.slice (some ⟨w.heap.size, 0, none⟩) es.length cap) rfl hp (fun C' g ex hv hl => by
    have hown : w1.ownsRow 0 e k (.slice (some ⟨w.heap.size, 0, none⟩) es.length cap) es.length L.flatten := by
      refine ⟨by rw [flatten_len hL, hlen], .inr ⟨w.heap.size, cap, cur, rfl, Nat.zero_le _, hp.new, hcap, hmax, hsz, ?_⟩⟩
      exact hcur
    refine ⟨_, L.flatten, hv, hl, hown, hE, fun i j e' c x hi hj hx => ?_⟩
    have hjk : j < k := by rw [← hE _ (List.mem_of_getElem? hi)]; exact (List.getElem?_eq_some_iff.1 hj).1
    rw [flatten_get hL i j hjk] at hx
    cases hLi : L[i]? with
    | none => rw [hLi] at hx; cases hx
    | some us =>
      rw [hLi] at hx
      simp only [Option.bind_some] at hx
      have hrep := hr i j e' c us x hi hj hLi hx
      exact ⟨hrep.mono ex, hrep.oneV (h1 _ (List.mem_of_getElem? hi) _ (List.mem_of_getElem? hj))⟩)
  exact ⟨g, C', I'.put ht (.own t g _ hv rfl), fun S0 C00 h0 => Trk.new h0 e'.val (fun s g x h => hrep_val (I.heap s g x h)) hv rfl (Nat.le_refl _)⟩

theorem buildSlice_step (I : Inv w0 B C0 n S C a w) {o : Oper} {t e : TypeId} {len sz by' : Nat} {parts : Array (Nat × Operand)} {t' : Nat} {zs : List Value} {K : St → Prop} (ho : o.op = .buildSlice t len parts) (hd : o.dst = some t') (ht : t' < n)
    (hs : slOf P t = some (e, sz, by')) (hz : zeroOf P e = some zs) (hseq : parts.toList.map (·.1) = List.range len) (hbig : len * sz ≤ 16777216) (hpos : 0 < sz)
    (h : evsK true S (parts.toList.map (·.2)) fun ds => (∀ d ∈ ds, cellOk d = true ∧ (cellsOfD d).length = sz ∧ ∀ c ∈ cellsOfD d, oneD c = true) ∧ frzL S (ds.map cellsOfD) fun S' es => ∀ g, K ((S'.hput t' g (.row e sz es)).put t' (.own t' g)))
    (Q : Exit → Act → World → Prop) : o.wp P a w (NextT w0 B C0 n K S C w t') Q := by
  obtain ⟨ds, ⟨hds, hfr⟩, hlen, hr⟩ := evsK_ok I h
  obtain ⟨inf, h1, h2, h3, _⟩ := slOf_spec hs
  obtain ⟨inf', z, h2', hz1, rfl, hzs⟩ := zeroOf_spec hz
  rw [h2] at h2'
  simp only [Option.some.injEq] at h2'
  subst h2'
  subst h3
  have hplen : parts.toList.length = len := by have := congrArg List.length hseq; simpa using this
  have hdl : ds.length = len := by rw [hlen]; simp [← hplen]
  let us : List Value := parts.toList.map fun p => a.eval p.2
  have hul : us.length = len := by simp only [us, List.length_map]; exact hplen
  have hrep : ∀ (i : Nat) d u, ds[i]? = some d → us[i]? = some u → Rep C w d u := fun i d u hd hu => by
    simp only [us, List.getElem?_map] at hu
    cases hx : parts.toList[i]? with
    | none => rw [hx] at hu; cases hu
    | some p =>
      rw [hx] at hu
      simp only [Option.map_some, Option.some.injEq] at hu
      subst hu
      exact hr rfl i p.2 d (by rw [List.getElem?_map, hx]; rfl) hd
  have hcells : ∀ (i : Nat) d u, ds[i]? = some d → us[i]? = some u → Cells C w (cellsOfD d) u.cells.toList := fun i d u hd hu => Cells.of_rep (hds d (List.mem_of_getElem? hd)).1 (hrep i d u hd hu)
  have husz : ∀ u ∈ us, u.cells.size = inf.size := fun u hu => by
    obtain ⟨i, hi⟩ := List.mem_iff_getElem?.1 hu
    have hlt : i < ds.length := by rw [hdl, ← hul]; exact (List.getElem?_eq_some_iff.1 hi).1
    have hd : ds[i]? = some ds[i] := List.getElem?_eq_getElem hlt
    have := (hcells i _ u hd hi).1
    rw [(hds _ (List.getElem_mem hlt)).2.1] at this
    simpa using this
  obtain ⟨S', es, C', hK, I', ⟨ex, hst⟩, hlens, hone, hreps⟩ := frzL_ok I (es := ds.map cellsOfD) (fun e he c hc => by
    rw [List.mem_map] at he
    obtain ⟨d, hd, rfl⟩ := he
    exact (hds d hd).2.2 c hc) hfr
  have hel : es.length = len := by
    have := congrArg List.length hlens
    simp only [List.length_map] at this
    omega
  have hE : ∀ x ∈ es, x.length = inf.size := fun x hx => by
    have : x.length ∈ es.map List.length := List.mem_map_of_mem hx
    rw [hlens, List.map_map, List.mem_map] at this
    obtain ⟨d, hd, he⟩ := this
    rw [← he]
    exact (hds d hd).2.1
  let zarr : Array Value := (Array.range (len * inf.size)).map (z.cells[· % z.cells.size]!)
  have hzarr : zarr.size = len * inf.size := by simp [zarr]
  obtain ⟨r, hfill, hrl⟩ := fill_seq us 0 zarr husz (by rw [hzarr, Nat.zero_add, hul]; exact Nat.le_refl _)
  have hrl' : r.toList = (us.map fun u => u.cells.toList).flatten := by
    rw [hrl, Nat.zero_mul, List.take_zero, List.nil_append, Nat.zero_add, hul, List.drop_of_length_le (by simp [hzarr]), List.append_nil]
  have hparts : (parts.toList.map fun p => (p.1, a.eval p.2)) = (us.zipIdx 0).map fun p => (p.2, p.1) := by
    apply List.ext_getElem?
    intro i
    simp only [List.getElem?_map, List.getElem?_zipIdx, us, Option.map_map, Nat.zero_add]
    cases hx : parts.toList[i]? with
    | none => simp
    | some p =>
      have h4 : (parts.toList.map (·.1))[i]? = some p.1 := by rw [List.getElem?_map, hx]; rfl
      rw [hseq, List.getElem?_range] at h4
      · simp only [Option.some.injEq] at h4
        subst h4
        simp
      · have := (List.getElem?_eq_some_iff.1 hx).1; omega
  have hrun : (execOp a.eval o).run P w = .ok (.value (.slice (some ⟨w.heap.size, 0, none⟩) len len)) (w.alloc (.cells r e)) := by
    have hb : ¬ (len * inf.size > 2 ^ 24) := by omega
    have hf2 : Instr.fill (fun i => some (i * inf.size, inf.size)) zarr (parts.map fun x => (x.1, a.eval x.2)).toList = some r := by
      rw [← hfill]; congr 1
      simp only [Array.toList_map]
      exact hparts
    by_cases h0 : len * inf.size = 0
    · have hz0 : zarr = (Array.range 0).map (fun x => (#[] : Array Value)[x % (#[] : Array Value).size]!) := by
        apply Array.ext
        · simp [hzarr, h0]
        · intro i h _; rw [hzarr, h0] at h; omega
      rw [hz0] at hf2
      simp [execOp, ho, Instr.buildSlice, run_underlying h1, run_sizeOf' h2, h0, Go.newRow] at hf2 ⊢
      rw [hf2]
      simp
    · simp [execOp, ho, Instr.buildSlice, run_underlying h1, run_sizeOf' h2, hb, h0, Go.newRow, zeroValue, typeInfo, h2, hz1]
      have : Instr.fill (fun i => some (i * inf.size, inf.size)) ((Array.range (len * inf.size)).map fun x => z.cells[x % z.cells.size]!) (parts.toList.map fun x => (x.fst, a.eval x.snd)) = some r := by
        rw [← hf2]; simp [zarr]
      rw [this]
      simp
  obtain ⟨g, C2, I2, htr⟩ := I'.newRow (t := t') (e := e) (k := inf.size) (cap := len) (es := es) (L := us.map fun u => u.cells.toList) (cur := r) (w1 := w.alloc (.cells r e)) ht (by simp [hel, hul])
    (fun l hl => by rw [List.mem_map] at hl; obtain ⟨u, hu, rfl⟩ := hl; simpa using husz u hu) hE
    (by rw [hel, hrl', List.take_of_length_le]; rw [flatten_len (k := inf.size) (fun l hl => by rw [List.mem_map] at hl; obtain ⟨u, hu, rfl⟩ := hl; simpa using husz u hu)]; simp [hul])
    (by
      have := congrArg List.length hrl'
      rw [flatten_len (k := inf.size) (fun l hl => by rw [List.mem_map] at hl; obtain ⟨u, hu, rfl⟩ := hl; simpa using husz u hu)] at this
      simpa [hul] using this)
    (by omega) (by
      have : len ≤ len * inf.size := Nat.le_mul_of_pos_right _ hpos
      simp only [maxLen]; omega)
    (fun i j e' c us' u he hc hu' hu => hreps (us.map fun u => u.cells.toList) (fun i j e c us' u he hc hu' hu => by
      rw [List.getElem?_map] at he hu'
      cases hd : ds[i]? with
      | none => rw [hd] at he; cases he
      | some d =>
        cases hx : us[i]? with
        | none => rw [hx] at hu'; cases hu'
        | some x =>
          rw [hd] at he; rw [hx] at hu'
          simp only [Option.map_some, Option.some.injEq] at he hu'
          subst he hu'
          exact (hcells i d x hd hx).2 j c u hc hu) i j e' c us' u he hc hu' hu)
    hone (Pushed.alloc _ _)
  refine wp_val hrun ?_
  rw [hd]
  rw [hel] at I2
  obtain ⟨q1, q2⟩ := htr S C (I.trkSame ex.val hst)
  exact ⟨_, C2, hK g, I2, Same.alloc _ _, q1, q2⟩
end
end Go.Eng

namespace Go.Eng
variable {P : Program}

/-- the elements behind a slice that is only read -/
def srcOf (S : St) (sz : Nat) (d : D) : Option (List (List D)) :=
  match d with
  | .sl k es => if k = sz then some es else none
  | .v (.slice none 0 0) => some []
  | .own s g =>
    match rowOf S s g with
    | some (_, k, es) => if k = sz then some es else none
    | none =>
      match frozOf S s g with
      | some (k, es) => if k = sz then some es else none
      | none => none
  | _ => none

def putK (S : St) (d : D) (new : List D) (K : St → Prop) : Prop :=
  match d with
  | .ptr s g off =>
    match look S.heap s with
    | some (g', .box cs) => g' = g ∧ off + new.length ≤ cs.length ∧ K (S.hput s g (.box (putAt cs off new)))
    | _ => False
  | .elt s g k i off =>
    match rowOf S s g with
    | some (e, k', es) => k' = k ∧ match es[i]? with
      | some cs => off + new.length ≤ cs.length ∧ K (S.hput s g (.row e k (es.set i (putAt cs off new))))
      | none => False
    | none => False
  | _ => False

section
variable {w0 : World} {B : Nat → Nat → Prop} {C0 : Ctx} {n : Nat} {S : St} {C : Ctx} {a : Act} {w w1 : World} {o : Obj}

theorem make_step (I : Inv w0 B C0 n S C a w) {o : Oper} {t e : TypeId} {sz by' : Nat} {x y : Operand} {t' : Nat} {zs : List Value} {K : St → Prop} (ho : o.op = .makeSlice t x y) (hd : o.dst = some t') (ht : t' < n)
    (hs : slOf P t = some (e, sz, by')) (hz : zeroOf P e = some zs) (h1 : zs.all Value.oneCell' = true)
    (h : evK true S x fun dx => evK true S y fun dy => ∃ l c : Int, dx = .v (.int .i64 l) ∧ dy = .v (.int .i64 c) ∧ 0 ≤ l ∧ l ≤ c ∧ c * (by' + 1) ≤ 281474976710656 ∧
      ∀ g, K ((S.hput t' g (.row e sz (List.replicate l.toNat (zs.map .v)))).put t' (.own t' g))) (Q : Exit → Act → World → Prop) : o.wp P a w (NextT w0 B C0 n K S C w t') Q := by
  obtain ⟨inf, q1, q2, q3, q4⟩ := slOf_spec hs
  obtain ⟨inf', z, q2', hz1, rfl, hzs⟩ := zeroOf_spec hz
  rw [q2] at q2'
  simp only [Option.some.injEq] at q2'
  subst q2' q3 q4
  obtain ⟨dx, hx, hrx⟩ := evK_ok I h
  obtain ⟨dy, ⟨l, c, rfl, rfl, h0, hlc, hb, hK⟩, hry⟩ := evK_ok I hx
  have ex := (hrx rfl).v_inv
  have ey := (hry rfl).v_inv
  have hc1 : c ≤ 281474976710656 := by
    have hc0 : 0 ≤ c := by omega
    have : c * 1 ≤ c * ((inf.bytes : Int) + 1) := Int.mul_le_mul_of_nonneg_left (by omega) hc0
    omega
  have hb2 : (inf.bytes : Int) * c ≤ 281474976710656 := by
    have : (inf.bytes : Int) * c = c * (inf.bytes + 1) - c := by rw [Int.mul_add, Int.mul_comm]; omega
    omega
  have hrun := run_make (P := P) w t e inf z q1 q2 hz1 .i64 .i64 l c h0 hlc hb2 (by omega)
  have hmc : (madeCells z.cells (c.toNat * inf.size)).size = c.toNat * inf.size := size_madeCells _ _
  have hget : ∀ j, j < c.toNat * inf.size → (madeCells z.cells (c.toNat * inf.size))[j]? = some (z.cells[j % z.cells.size]!) := fun j hj => by
    simp [madeCells, hj]
  have htl : l.toNat ≤ c.toNat := by omega
  have htake : (madeCells z.cells (c.toNat * inf.size)).toList.take (l.toNat * inf.size) = (List.replicate l.toNat z.cells.toList).flatten := by
    apply List.ext_getElem?
    intro m
    rw [List.getElem?_take]
    have hfl : (List.replicate l.toNat z.cells.toList).flatten.length = l.toNat * inf.size := by
      rw [flatten_len (k := inf.size) (fun x hx => by rw [List.eq_of_mem_replicate hx]; simpa using hzs)]; simp
    by_cases hm : m < l.toNat * inf.size
    · rw [if_pos hm]
      have hpos : 0 < inf.size := by
        rcases Nat.eq_zero_or_pos inf.size with h | h
        · rw [h] at hm; omega
        · exact h
      have hm2 : m < c.toNat * inf.size := Nat.lt_of_lt_of_le hm (Nat.mul_le_mul_right _ htl)
      have := hget m hm2
      rw [Array.getElem?_toList, this]
      have hdm : m / inf.size * inf.size + m % inf.size = m := by rw [Nat.mul_comm]; exact Nat.div_add_mod _ _
      have hmod : m % inf.size < inf.size := Nat.mod_lt _ hpos
      have hdv : m / inf.size < l.toNat := by rw [Nat.div_lt_iff_lt_mul hpos]; exact hm
      have := flatten_get (L := List.replicate l.toNat z.cells.toList) (k := inf.size) (fun x hx => by rw [List.eq_of_mem_replicate hx]; simpa using hzs) (m / inf.size) (m % inf.size) hmod
      rw [hdm] at this
      rw [this, List.getElem?_replicate, if_pos hdv]
      simp only [Option.bind_some, hzs]
      have hl2 : m % inf.size < z.cells.size := by rw [hzs]; exact hmod
      rw [getElem!_pos z.cells (m % inf.size) hl2]
      simp [hl2]
    · rw [if_neg hm, List.getElem?_eq_none (by omega)]
  obtain ⟨g, C2, I2, htr⟩ := I.newRow (t := t') (e := e) (k := inf.size) (cap := c.toNat) (es := List.replicate l.toNat (z.cells.toList.map .v)) (L := List.replicate l.toNat z.cells.toList)
    (cur := madeCells z.cells (c.toNat * inf.size)) (w1 := w.alloc (.cells (madeCells z.cells (c.toNat * inf.size)) e)) ht (by simp)
    (fun x hx => by rw [List.eq_of_mem_replicate hx]; simpa using hzs) (fun x hx => by rw [List.eq_of_mem_replicate hx]; simpa using hzs)
    (by simpa using htake) hmc (by simpa using htl) (by simp only [maxLen]; omega)
    (fun i j e' c' us u he hc hu' hu => by
      have h1 := List.eq_of_mem_replicate (List.mem_of_getElem? he)
      have h2 := List.eq_of_mem_replicate (List.mem_of_getElem? hu')
      subst h1 h2
      rw [List.getElem?_map, hu] at hc
      simp only [Option.map_some, Option.some.injEq] at hc
      subst hc
      exact .v _)
    (fun e' he c hc => by
      rw [List.eq_of_mem_replicate he, List.mem_map] at hc
      obtain ⟨x, hx, rfl⟩ := hc
      exact List.all_eq_true.1 h1 x hx)
    (Pushed.alloc _ _)
  refine wp_val (u := .slice (some ⟨w.heap.size, 0, none⟩) l.toNat c.toNat) (w' := w.alloc (.cells (madeCells z.cells (c.toNat * inf.size)) e)) ?_ ?_
  · simp [execOp, ho, ex, ey, hrun]
  · rw [hd]
    simp only [List.length_replicate] at I2
    obtain ⟨q1, q2⟩ := htr S C (I.trkSame (fun _ _ _ h => h) (fun _ _ x h => ⟨x, h⟩))
    exact ⟨_, C2, hK g, I2, Same.alloc _ _, q1, q2⟩

theorem store_ok (I : Inv w0 B C0 n S C a w) {t : TypeId} {agg : Bool} {sz : Nat} (ht : tyOf P t = some (agg, sz)) {d dv : D} {u uv : Value} {K : St → Prop} (hu : Rep C w d u) (hv : Rep C w dv uv) (hok : cellOk dv = true)
    (hl : (cellsOfD dv).length = sz) (h1 : ∀ c ∈ cellsOfD dv, oneD c = true) (h : putK S d (cellsOfD dv) K) :
    ∃ S' C' w', K S' ∧ (Instr.storeAt t u uv).run P w = .ok () w' ∧ Inv w0 B C0 n S' C' a w' := by
  have hcv := Cells.of_rep hok hv
  have hsz : uv.cells.size = sz := by rw [← hl, ← hcv.1]; simp
  have hone : ∀ x ∈ uv.cells.toList, x.oneCell' = true := fun x hx => by
    obtain ⟨j, hj⟩ := List.mem_iff_getElem?.1 hx
    have hlt : j < (cellsOfD dv).length := by rw [← hcv.1]; exact (List.getElem?_eq_some_iff.1 hj).1
    have hc := List.getElem?_eq_getElem hlt
    exact (hcv.2 j _ x hc hj).oneV (h1 _ (List.getElem_mem hlt))
  have run : ∀ b off cur ty, w.heap[b]? = some (.cells cur ty (0, 0)) → off + uv.cells.size ≤ cur.size →
      (Instr.storeAt t (.pointer (some ⟨b, off, none⟩)) uv).run P w = .ok () (w.setRow b (cur.toList.take off ++ uv.cells.toList ++ cur.toList.drop (off + uv.cells.toList.length)).toArray) := fun b off cur ty hb hle => by
    have := run_storeCells_at P b off ty uv.cells.toList 0 cur w hb (by simpa using hle) hone
    simp only [Nat.add_zero] at this
    simp [Instr.storeAt, Instr.sureAddr, storeVar, run_sizeOf ht, hsz, this]
  cases d with
  | ptr s g off =>
    simp only [putK] at h
    split at h
    · rename_i g' cs hlk
      obtain ⟨rfl, hle, hK⟩ := h
      cases hu with
      | ptr _ _ _ b hval =>
        obtain ⟨b', arr, ty, q1, q2, q3, q4, q5⟩ := I.heap s g' _ hlk
        rw [hval] at q1
        simp only [Option.some.injEq, Value.pointer.injEq, Addr.mk.injEq, and_true] at q1
        subst q1
        have hr := run b off arr ty q3 (by rw [hsz, ← hl, q4]; exact hle)
        have hcells : Cells C w cs arr.toList := ⟨by simp [q4], fun j c u hj hu => (q5 j c u hj (by simpa using hu)).1⟩
        have hone2 : ∀ x ∈ arr.toList, x.oneCell' = true := fun x hx => by
          obtain ⟨j, hj⟩ := List.mem_iff_getElem?.1 hx
          have hlt : j < cs.length := by rw [← q4]; have := (List.getElem?_eq_some_iff.1 hj).1; simpa using this
          exact (q5 j _ x (List.getElem?_eq_getElem hlt) (by simpa using hj)).2
        have hnew := Cells.putAt (o := off) hcells hcv hle
        let arr' : Array Value := (arr.toList.take off ++ uv.cells.toList ++ arr.toList.drop (off + uv.cells.toList.length)).toArray
        have hw := I.write (w' := w.setRow b arr') (x' := .box (putAt cs off (cellsOfD dv))) hlk hval q2 rfl (fun k hk => setRow_other w b k _ hk) (by simp [World.setRow]) rfl rfl rfl
          (fun e => ⟨b, arr', ty, hval, q2, setRow_heap w b arr arr' ty (0, 0) q3, by
            have := hnew.1
            simp only [arr', List.size_toArray]
            rw [List.append_assoc]
            exact this, fun j c u hj hu => by
            have hu' : (arr.toList.take off ++ (uv.cells.toList ++ arr.toList.drop (off + uv.cells.toList.length)))[j]? = some u := by
              simp only [arr'] at hu
              rw [List.append_assoc] at hu
              simpa using hu
            refine ⟨(hnew.2 j c u hj hu').mono e, ?_⟩
            rcases List.mem_append.1 (List.mem_of_getElem? hu') with h | h
            · exact hone2 u (List.mem_of_mem_take h)
            · rcases List.mem_append.1 h with h | h
              · exact hone u h
              · exact hone2 u (List.mem_of_mem_drop h)⟩)
        exact ⟨_, C, _, hK, hr, hw.1⟩
    · exact h.elim
  | elt s g k i off =>
    simp only [putK] at h
    split at h
    · rename_i e k' es hro
      obtain ⟨rfl, h⟩ := h
      split at h
      · rename_i cs hi
        obtain ⟨hle, hK⟩ := h
        cases hu with
        | elt _ _ _ _ _ b m cp hval =>
          have hlk := rowOf_spec hro
          obtain ⟨u', xs, q1, q2, hown, hk, hall⟩ := I.heap s g _ hlk
          rw [hval] at q1
          simp only [Option.some.injEq] at q1
          subst q1
          rcases hown.2 with ⟨h0, _⟩ | ⟨gb, cap, cur, hvv, hz, hg, hnc, hcm, hcs, htake⟩
          · cases h0
          · simp only [Value.slice.injEq, Option.some.injEq, Addr.mk.injEq, and_true] at hvv
            obtain ⟨rfl, rfl, rfl⟩ := hvv
            have hil : i < es.length := (List.getElem?_eq_some_iff.1 hi).1
            have hcl : cs.length = k' := hk _ (List.mem_of_getElem? hi)
            have hik : i * k' + k' ≤ es.length * k' := by
              calc i * k' + k' = (i + 1) * k' := by rw [Nat.add_mul]; omega
                _ ≤ es.length * k' := Nat.mul_le_mul_right _ hil
            have hcap : es.length * k' ≤ cp * k' := Nat.mul_le_mul_right _ hnc
            have hle2 : i * k' + off + uv.cells.size ≤ cur.size := by rw [hsz, ← hl, hcs]; omega
            have hr := run b (i * k' + off) cur e hg hle2
            let news := cur.toList.take (i * k' + off) ++ uv.cells.toList ++ cur.toList.drop (i * k' + off + uv.cells.toList.length)
            let arr' : Array Value := news.toArray
            have hnl : news.length = cur.size := by simp [news]; omega
            have hnget : ∀ m, news[m]? = if i * k' + off ≤ m ∧ m < i * k' + off + uv.cells.size then uv.cells[m - (i * k' + off)]? else cur[m]? := fun m => by
              simp only [news, List.append_assoc]
              rw [List.getElem?_append]
              have e0 : (cur.toList.take (i * k' + off)).length = i * k' + off := by simp; omega
              rw [e0]
              by_cases hm : m < i * k' + off
              · rw [if_pos hm, if_neg (by omega), List.getElem?_take, if_pos hm]; simp
              · rw [if_neg hm, List.getElem?_append]
                by_cases hm2 : m - (i * k' + off) < uv.cells.toList.length
                · rw [if_pos hm2, if_pos ⟨by omega, by simp at hm2; omega⟩]; simp
                · rw [if_neg hm2, if_neg (by simp at hm2; omega), List.getElem?_drop]
                  simp only [Array.length_toList] at hm2 ⊢
                  rw [show i * k' + off + uv.cells.size + (m - (i * k' + off) - uv.cells.size) = m from by omega]
                  simp
            have hnewlen : ∀ e' ∈ es.set i (putAt cs off (cellsOfD dv)), e'.length = k' := fun e' he => by
              rcases List.mem_or_eq_of_mem_set he with h | h
              · exact hk e' h
              · subst h; simp only [putAt, List.length_append, List.length_take, List.length_drop]; omega
            have hw := I.write (w' := w.setRow b arr') (x' := .row e k' (es.set i (putAt cs off (cellsOfD dv)))) hlk hval q2 rfl (fun k hk => setRow_other w b k _ hk) (by simp [World.setRow]) rfl rfl rfl
              (fun ex => ⟨_, news.take (es.length * k'), hval, q2, ⟨by simp [hnl]; omega, .inr ⟨b, cp, arr', by simp, hz, setRow_heap w b cur arr' e (0, 0) hg, by simpa using hnc, hcm, by simp [arr', hnl, hcs], by simp [arr']⟩⟩, hnewlen,
                fun i' j e' c x hi' hj hx => by
                  have hi'l : i' < es.length := by have := (List.getElem?_eq_some_iff.1 hi').1; simpa using this
                  have hjk : j < k' := by rw [← hnewlen e' (List.mem_of_getElem? hi')]; exact (List.getElem?_eq_some_iff.1 hj).1
                  have hm : i' * k' + j < es.length * k' := by
                    calc i' * k' + j < i' * k' + k' := by omega
                      _ = (i' + 1) * k' := by rw [Nat.add_mul]; omega
                      _ ≤ es.length * k' := Nat.mul_le_mul_right _ hi'l
                  rw [List.getElem?_take, if_pos hm, hnget] at hx
                  rw [List.getElem?_set] at hi'
                  have oldx : ∀ e0 c0, es[i']? = some e0 → e0[j]? = some c0 → cur[i' * k' + j]? = some x → Rep C (w.setRow b arr') c0 x ∧ x.oneCell' = true := fun e0 c0 he0 hc0 hx0 => by
                    have hxs : xs[i' * k' + j]? = some x := by rw [← htake, List.getElem?_take, if_pos hm]; simpa using hx0
                    have := hall i' j e0 c0 x he0 hc0 hxs
                    exact ⟨this.1.mono ex, this.2⟩
                  by_cases hii : i = i'
                  · subst hii
                    rw [if_pos rfl, if_pos hil] at hi'
                    simp only [Option.some.injEq] at hi'
                    subst hi'
                    unfold putAt at hj
                    have e0 : (cs.take off).length = off := by simp; omega
                    rw [List.getElem?_append, e0] at hj
                    by_cases hjo : j < off
                    · rw [if_pos hjo, List.getElem?_take, if_pos hjo] at hj
                      rw [if_neg (by omega)] at hx
                      exact oldx cs c hi hj hx
                    · rw [if_neg hjo, List.getElem?_append] at hj
                      by_cases hj2 : j - off < (cellsOfD dv).length
                      · rw [if_pos hj2] at hj
                        rw [if_pos ⟨by omega, by omega⟩, show i * k' + j - (i * k' + off) = j - off from by omega] at hx
                        have hx' : uv.cells.toList[j - off]? = some x := by simpa using hx
                        exact ⟨(hcv.2 _ c x hj hx').mono ex, hone x (List.mem_of_getElem? hx')⟩
                      · rw [if_neg hj2, List.getElem?_drop, show off + (cellsOfD dv).length + (j - off - (cellsOfD dv).length) = j from by omega] at hj
                        rw [if_neg (by omega)] at hx
                        exact oldx cs c hi hj hx
                  · rw [if_neg hii] at hi'
                    have hfar : ¬ (i * k' + off ≤ i' * k' + j ∧ i' * k' + j < i * k' + off + uv.cells.size) := by
                      rintro ⟨p1, p2⟩
                      rcases Nat.lt_or_gt_of_ne hii with h | h
                      · have : (i + 1) * k' ≤ i' * k' := Nat.mul_le_mul_right _ h
                        rw [Nat.add_mul] at this
                        omega
                      · have : (i' + 1) * k' ≤ i * k' := Nat.mul_le_mul_right _ h
                        rw [Nat.add_mul] at this
                        omega
                    rw [if_neg hfar] at hx
                    exact oldx e' c hi' hj hx⟩)
            exact ⟨_, C, _, hK, hr, hw.1⟩
      · exact h.elim
    · exact h.elim
  | _ => exact h.elim

/-- the cells of a slice that is read -/
theorem src_ok (I : Inv w0 B C0 n S C a w) {sz : Nat} (hpos : 0 < sz) {d : D} {es : List (List D)} {u : Value} (h : srcOf S sz d = some es) (hr : Rep C w d u) (h1 : ∀ e ∈ es, ∀ c ∈ e, oneD c = true) :
    ∃ (ao : Option Addr) (cap : Nat), u = .slice ao es.length cap ∧ (∀ e ∈ es, e.length = sz) ∧
      (es ≠ [] → ∃ (ad : Addr) (news : List Value), ao = some ad ∧ news.length = es.length * sz ∧ (∀ (j : Nat) x, news[j]? = some x → w.cell? (ad.add j) = some x) ∧ (∀ x ∈ news, x.oneCell' = true) ∧
        ∀ (i j : Nat) e c x, es[i]? = some e → e[j]? = some c → news[i * sz + j]? = some x → Rep C w c x) := by
  have sl : ∀ es u, Rep C w (.sl sz es) u → (∀ e ∈ es, ∀ c ∈ e, oneD c = true) → ∃ (ao : Option Addr) (cap : Nat), u = .slice ao es.length cap ∧ (∀ e ∈ es, e.length = sz) ∧
      (es ≠ [] → ∃ (ad : Addr) (news : List Value), ao = some ad ∧ news.length = es.length * sz ∧ (∀ (j : Nat) x, news[j]? = some x → w.cell? (ad.add j) = some x) ∧ (∀ x ∈ news, x.oneCell' = true) ∧
        ∀ (i j : Nat) e c x, es[i]? = some e → e[j]? = some c → news[i * sz + j]? = some x → Rep C w c x) := fun es u hr h1 => by
    cases hr with
    | slE _ ao cap hm => exact ⟨ao, cap, rfl, fun _ h => absurd h (by simp), fun h => absurd rfl h⟩
    | sl _ _ b o cap us hl hm hk hc hh =>
      refine ⟨_, cap, rfl, hk, fun _ => ⟨⟨b, o, none⟩, (List.range (es.length * sz)).map fun m => us (m / sz) (m % sz), rfl, by simp, fun j x hx => ?_, fun x hx => ?_, fun i j e c x hi hj hx => ?_⟩⟩
      · rw [List.getElem?_map] at hx
        by_cases hj : j < es.length * sz
        · rw [List.getElem?_range hj] at hx
          simp only [Option.map_some, Option.some.injEq] at hx
          subst hx
          have hd : j / sz < es.length := by rw [Nat.div_lt_iff_lt_mul hpos]; exact hj
          have hm' : j % sz < sz := Nat.mod_lt _ hpos
          have he := List.getElem?_eq_getElem hd
          have hlen : (es[j / sz]).length = sz := hk _ (List.getElem_mem hd)
          have hc' := List.getElem?_eq_getElem (l := es[j / sz]) (i := j % sz) (by rw [hlen]; exact hm')
          have := (hc _ _ _ _ he hc').2
          rw [Addr.add_lit]
          rwa [show o + (j / sz * sz + j % sz) = o + j from by rw [Nat.mul_comm, Nat.div_add_mod]] at this
        · rw [List.getElem?_eq_none (by simp; omega)] at hx
          cases hx
      · rw [List.mem_map] at hx
        obtain ⟨m, hm', rfl⟩ := hx
        have hj : m < es.length * sz := by simpa using hm'
        have hd : m / sz < es.length := by rw [Nat.div_lt_iff_lt_mul hpos]; exact hj
        have hm2 : m % sz < sz := Nat.mod_lt _ hpos
        have he := List.getElem?_eq_getElem hd
        have hlen : (es[m / sz]).length = sz := hk _ (List.getElem_mem hd)
        have hc' := List.getElem?_eq_getElem (l := es[m / sz]) (i := m % sz) (by rw [hlen]; exact hm2)
        exact (hh _ _ _ _ he hc').oneV (h1 _ (List.getElem_mem hd) _ (List.getElem_mem _))
      · have hlen : e.length = sz := hk _ (List.mem_of_getElem? hi)
        have hj2 : j < sz := by rw [← hlen]; exact (List.getElem?_eq_some_iff.1 hj).1
        have hi2 : i < es.length := (List.getElem?_eq_some_iff.1 hi).1
        have hm' : i * sz + j < es.length * sz := by
          calc i * sz + j < i * sz + sz := by omega
            _ = (i + 1) * sz := by rw [Nat.add_mul]; omega
            _ ≤ es.length * sz := Nat.mul_le_mul_right _ hi2
        rw [List.getElem?_map, List.getElem?_range hm'] at hx
        simp only [Option.map_some, Option.some.injEq] at hx
        have e1 : (i * sz + j) / sz = i := by rw [Nat.mul_comm, Nat.mul_add_div hpos, Nat.div_eq_of_lt hj2]; rfl
        have e2 : (i * sz + j) % sz = j := by rw [Nat.mul_comm, Nat.mul_add_mod, Nat.mod_eq_of_lt hj2]
        rw [e1, e2] at hx
        subst hx
        exact hh _ _ _ _ hi hj
  cases d with
  | sl k es' =>
    simp only [srcOf] at h
    split at h
    · rename_i hk
      subst hk
      simp only [Option.some.injEq] at h
      subst h
      exact sl _ _ hr h1
    · cases h
  | v x =>
    unfold srcOf at h
    split at h <;> try (rename_i heq; cases heq)
    · simp only [Option.some.injEq] at h
      subst h
      obtain rfl := hr.v_inv
      exact ⟨_, _, rfl, fun _ h => absurd h (by simp), fun h => absurd rfl h⟩
    · cases h
  | own s g =>
    simp only [srcOf] at h
    split at h
    · rename_i e k es' hro
      split at h
      · rename_i hk
        subst hk
        simp only [Option.some.injEq] at h
        subst h
        obtain ⟨u', xs, hv, hl, hown, hk, hall⟩ := I.heap s g _ (rowOf_spec hro)
        cases hr with
        | own _ _ _ hv' _ =>
          rw [hv] at hv'
          simp only [Option.some.injEq] at hv'
          subst hv'
          obtain ⟨ao, cap, rfl, _⟩ := ownsRow_slice hown
          refine ⟨ao, cap, rfl, hk, fun hne => ?_⟩
          have hpos' : 0 < es'.length := List.length_pos_iff.2 hne
          obtain ⟨b, cap', hbe⟩ := ownsRow_val hown hpos'
          simp only [Value.slice.injEq] at hbe
          obtain ⟨rfl, _, _⟩ := hbe
          refine ⟨_, xs, rfl, hown.1, hown.cells (g := b) rfl, fun x hx => ?_, fun i j e c x hi hj hx => (hall i j e c x hi hj hx).1⟩
          obtain ⟨m, hm⟩ := List.mem_iff_getElem?.1 hx
          have hml : m < es'.length * k := by rw [← hown.1]; exact (List.getElem?_eq_some_iff.1 hm).1
          have hd : m / k < es'.length := by rw [Nat.div_lt_iff_lt_mul hpos]; exact hml
          have hm2 : m % k < k := Nat.mod_lt _ hpos
          have he := List.getElem?_eq_getElem hd
          have hlen : (es'[m / k]).length = k := hk _ (List.getElem_mem hd)
          have hc' := List.getElem?_eq_getElem (l := es'[m / k]) (i := m % k) (by rw [hlen]; exact hm2)
          have hdm : m / k * k + m % k = m := by rw [Nat.mul_comm]; exact Nat.div_add_mod _ _
          exact (hall _ _ _ _ x he hc' (by rw [hdm]; exact hm)).2
      · cases h
    · split at h
      · rename_i k es' hf
        split at h
        · rename_i hk
          subst hk
          simp only [Option.some.injEq] at h
          subst h
          obtain ⟨u', hv, hrep⟩ := I.heap s g _ (frozOf_spec hf)
          cases hr with
          | own _ _ _ hv' _ =>
            rw [hv] at hv'
            simp only [Option.some.injEq] at hv'
            subst hv'
            exact sl _ _ hrep h1
        · cases h
      · cases h
  | _ => simp [srcOf] at h

/-- the rows' cells after an append -/
theorem append_cells {C' : Ctx} {w' : World} {sz : Nat} {es es2 : List (List D)} {xs news : List Value} (e : Ext C w C' w') (hx : xs.length = es.length * sz)
    (hk : ∀ e ∈ es, e.length = sz) (hk2 : ∀ e ∈ es2, e.length = sz)
    (h : ∀ (i j : Nat) e' c x, es[i]? = some e' → e'[j]? = some c → xs[i * sz + j]? = some x → Rep C w c x ∧ x.oneCell' = true)
    (h2 : ∀ (i j : Nat) e' c x, es2[i]? = some e' → e'[j]? = some c → news[i * sz + j]? = some x → Rep C w c x) (h3 : ∀ x ∈ news, x.oneCell' = true) :
    ∀ (i j : Nat) e' c x, (es ++ es2)[i]? = some e' → e'[j]? = some c → (xs ++ news)[i * sz + j]? = some x → Rep C' w' c x ∧ x.oneCell' = true := by
  intro i j e' c x hi hj hx'
  rw [List.getElem?_append] at hi
  split at hi
  · rename_i hlt
    have hjk : j < sz := by rw [← hk _ (List.mem_of_getElem? hi)]; exact (List.getElem?_eq_some_iff.1 hj).1
    have hm : i * sz + j < xs.length := by
      rw [hx]
      calc i * sz + j < i * sz + sz := by omega
        _ = (i + 1) * sz := by rw [Nat.add_mul]; omega
        _ ≤ es.length * sz := Nat.mul_le_mul_right _ hlt
    rw [List.getElem?_append, if_pos hm] at hx'
    have := h i j e' c x hi hj hx'
    exact ⟨this.1.mono e, this.2⟩
  · rename_i hge
    have hm : ¬ (i * sz + j < xs.length) := by
      rw [hx]
      have : es.length * sz ≤ i * sz := Nat.mul_le_mul_right _ (by omega)
      omega
    rw [List.getElem?_append, if_neg hm, hx, show i * sz + j - es.length * sz = (i - es.length) * sz + j from by
      rw [Nat.sub_mul]
      have : es.length * sz ≤ i * sz := Nat.mul_le_mul_right _ (by omega)
      omega] at hx'
    exact ⟨(h2 _ _ _ _ _ hi hj hx').mono e, h3 x (List.mem_of_getElem? hx')⟩
end
end Go.Eng

namespace Go.Eng
variable {P : Program}

/-- elements of single cells -/
def oneLL (es : List (List D)) : Bool := es.all fun x => x.all oneD
theorem oneLL_ok {es : List (List D)} (h : oneLL es = true) : ∀ x ∈ es, ∀ c ∈ x, oneD c = true := fun x hx c hc => List.all_eq_true.1 (List.all_eq_true.1 h x hx) c hc
theorem oneLL_map {α : Type} {f : α → List D} (l : List α) (h : ∀ a, (f a).all oneD = true) : oneLL (l.map f) = true := List.all_eq_true.2 fun x hx => by
  obtain ⟨a, _, rfl⟩ := List.mem_map.1 hx
  exact h a
theorem oneLL_nil : oneLL [] = true := rfl
theorem oneLL_cons (x : List D) (l : List (List D)) : oneLL (x :: l) = (x.all oneD && oneLL l) := rfl
theorem oneLL_take {l : List (List D)} (n : Nat) (h : oneLL l = true) : oneLL (l.take n) = true := List.all_eq_true.2 fun x hx => List.all_eq_true.1 h x (List.mem_of_mem_take hx)
theorem oneLL_drop {l : List (List D)} (n : Nat) (h : oneLL l = true) : oneLL (l.drop n) = true := List.all_eq_true.2 fun x hx => List.all_eq_true.1 h x (List.mem_of_mem_drop hx)
theorem oneLL_app (l m : List (List D)) : oneLL (l ++ m) = (oneLL l && oneLL m) := List.all_append
theorem oneLL_rep (n : Nat) (x : List D) (h : x.all oneD = true) : oneLL (List.replicate n x) = true := List.all_eq_true.2 fun y hy => by rw [List.eq_of_mem_replicate hy]; exact h
def appK (S : St) (e sz by' t' : Nat) (dx dy : D) (K : St → Prop) : Prop :=
  match srcOf S sz dy with
  | some es2 =>
    oneLL es2 = true ∧
    match dx with
    | .own s g =>
      match rowOf S s g with
      | some (e', k, es) => e' = e ∧ k = sz ∧ (es.length + es2.length) * (by' + 1) ≤ 140737488355328 ∧ ∀ g', K ((S.hput s g' (.row e sz (es ++ es2))).put t' (.own s g'))
      | none => False
    | .v (.slice none 0 0) => es2.length * (by' + 1) ≤ 140737488355328 ∧ ∀ g', K ((S.hput t' g' (.row e sz es2)).put t' (.own t' g'))
    | _ => False
  | none => False

theorem evK_self {c : Bool} {S : St} {x : Operand} {k : D → Prop} (h : evK c S x k) : evK c S x fun d => k d ∧ evK c S x fun d' => d' = d := by
  cases x with
  | const v => exact ⟨h, rfl⟩
  | func f => exact ⟨h, rfl⟩
  | global g => exact h.elim
  | tmp t =>
    simp only [evK] at h ⊢
    cases hl : look S.slots t with
    | none => rw [hl] at h; exact h.elim
    | some d =>
      rw [hl] at h
      cases d with
      | when c' d => exact ⟨h.1, h.2, h.1, rfl⟩
      | _ => exact ⟨h, rfl⟩

section
variable {w0 : World} {B : Nat → Nat → Prop} {C0 : Ctx} {n : Nat} {S : St} {C : Ctx} {a : Act} {w w1 : World} {o : Obj}

/-- a name for a nil row -/
theorem Inv.nameNil (I : Inv w0 B C0 n S C a w) (s e k : Nat) :
    ∃ g C', Inv w0 B C0 n (S.hput s g (.row e k [])) C' a w ∧ C'.val s g = some (.slice none 0 0) ∧ Ext C w C' w := by
  obtain ⟨N, hN⟩ := I.fresh s
  have hg := hN N (Nat.le_refl _)
  have hv : (C.add s N (.slice none 0 0)).val s N = some (.slice none 0 0) := by simp [Ctx.add]
  have hl : (C.add s N (.slice none 0 0)).live s N = true := by simp [Ctx.add]
  have old : ∀ s' g' x, (C.add s N (.slice none 0 0)).val s' g' = some x → (s' = s ∧ g' = N ∧ x = .slice none 0 0) ∨ (¬ (s' = s ∧ g' = N) ∧ C.val s' g' = some x) := fun s' g' x hx => by
    simp only [Ctx.add] at hx
    split at hx
    · rename_i h; simp only [Option.some.injEq] at hx; exact .inl ⟨h.1, h.2, hx.symm⟩
    · rename_i h; exact .inr ⟨h, hx⟩
  have oldl : ∀ s' g', ¬ (s' = s ∧ g' = N) → (C.add s N (.slice none 0 0)).live s' g' = C.live s' g' := fun s' g' h => by simp only [Ctx.add]; rw [if_neg h]
  have ext : Ext C w (C.add s N (.slice none 0 0)) w := by
    refine ⟨fun s' g' x hx => ?_, fun b hb ⟨s', g', u', h1, h2, h3⟩ => ?_, fun _ _ _ => rfl, Nat.le_refl _⟩
    · simp only [Ctx.add]
      rw [if_neg]
      · exact hx
      · rintro ⟨rfl, rfl⟩; rw [hg] at hx; cases hx
    · rcases old s' g' u' h1 with ⟨_, _, rfl⟩ | ⟨hn, h1'⟩
      · cases h3
      · rw [oldl _ _ hn] at h2
        exact ⟨s', g', u', h1', h2, h3⟩
  refine ⟨N, _, ⟨I.size, I.defers, fun k' d hk => ?_, fun s' g' b' hb' => ?_, fun s' g' b' x u' hx hl' hv' hb' => ?_, fun s1 g1 u1 s2 g2 u2 b' h1 h2 h3 h4 h5 h6 => ?_, fun s' g' u' b' h1 h2 h3 => ?_,
    fun s' => ?_, I.frame, fun s' g' x hx => ext.val _ _ _ (I.old _ _ _ hx), fun b' hb' ho => I.owned b' hb' (ext.owns b' (Nat.lt_of_lt_of_le hb' I.frame.size) ho), fun s' g' u' h1 h2 h4 => ?_, fun s' g' y z hy hz => by
      rw [look_hput] at hy
      split at hy
      · rename_i es
        subst es
        simp only [Option.some.injEq, Prod.mk.injEq] at hy
        obtain ⟨rfl, rfl⟩ := hy
        have := I.old _ _ _ hz
        rw [hg] at this; cases this
      · exact I.ents s' g' y z hy hz, fun s' g' x h1 h2 => ?_, I.bound0⟩, hv, ext⟩
  · obtain ⟨x, hx, hr⟩ := I.slots k' d hk
    exact ⟨x, hx, hr.mono ext⟩
  · rw [look_hput] at hb'
    split at hb'
    · rename_i es
      subst es
      simp only [Option.some.injEq, Prod.mk.injEq] at hb'
      obtain ⟨rfl, rfl⟩ := hb'
      exact ⟨_, [], hv, hl, World.ownsRow_nil _ _ _ _, fun _ h => absurd h (by simp), fun i j e' c x hi _ _ => by simp at hi⟩
    · refine (I.heap s' g' b' hb').keep ext (fun h => ?_) (fun _ _ _ _ _ => rfl)
      by_cases hs : s' = s ∧ g' = N
      · simp [Ctx.add, hs]
      · rw [oldl _ _ hs]; exact h
  · rw [look_hput] at hx
    rcases old s' g' u' hv' with ⟨_, _, rfl⟩ | ⟨hn, hv2⟩
    · cases hb'
    · rw [oldl _ _ hn] at hl'
      split at hx
      · rename_i es
        subst es
        simp only [Option.some.injEq, Prod.mk.injEq] at hx
        obtain ⟨rfl, rfl⟩ := hx
        exact absurd ⟨rfl, rfl⟩ hn
      · exact I.mine s' g' b' x u' hx hl' hv2 hb'
  · rcases old s1 g1 u1 h1 with ⟨_, _, rfl⟩ | ⟨hn1, hv1⟩
    · cases h5
    · rw [oldl _ _ hn1] at h2
      rcases old s2 g2 u2 h3 with ⟨_, _, rfl⟩ | ⟨hn2, hv2⟩
      · cases h6
      · rw [oldl _ _ hn2] at h4
        exact I.apart s1 g1 u1 s2 g2 u2 b' hv1 h2 hv2 h4 h5 h6
  · rcases old s' g' u' h1 with ⟨_, _, rfl⟩ | ⟨hn, hv2⟩
    · cases h3
    · rw [oldl _ _ hn] at h2
      exact I.bound s' g' u' b' hv2 h2 h3
  · obtain ⟨M, hM⟩ := I.fresh s'
    refine ⟨max M (N + 1), fun g' hg' => ?_⟩
    simp only [Ctx.add]
    rw [if_neg (by omega)]
    exact hM g' (by omega)
  · have hx := I.kept s' g' u' h1 h2 h4
    by_cases hs : s' = s ∧ g' = N
    · simp [Ctx.add, hs]
    · rw [oldl _ _ hs]; exact hx
  · by_cases hs : s' = s ∧ g' = N
    · obtain ⟨rfl, rfl⟩ := hs
      have := I.old _ _ _ h1
      rw [hg] at this; cases this
    · rw [oldl _ _ hs] at h2
      exact I.dead0 _ _ _ h1 h2

/-- the slot of a nil slice is named as an empty row -/
theorem Inv.nilRow (I : Inv w0 B C0 n S C a w) {t : Nat} (hl : look S.slots t = some (.v (.slice none 0 0))) (s e k : Nat) : ∃ g C', Inv w0 B C0 n ((S.hput s g (.row e k [])).put t (.own s g)) C' a w := by
  obtain ⟨g, C', I', hv, ext⟩ := I.nameNil s e k
  obtain ⟨u, hu, hr⟩ := I.slots t _ hl
  obtain rfl := hr.v_inv
  refine ⟨g, C', I'.size, I'.defers, fun k' d hk => ?_, I'.heap, I'.mine, I'.apart, I'.bound, I'.fresh, I'.frame, I'.old, I'.owned, I'.kept, I'.ents, I'.dead0, I'.bound0⟩
  simp only [St.put, look] at hk
  split at hk
  · rename_i e
    subst e
    simp only [Option.some.injEq] at hk
    subst hk
    exact ⟨_, hu, .own _ _ _ hv rfl⟩
  · exact I'.slots k' d hk

theorem app_own (I : Inv w0 B C0 n S C a w) {t ty e : TypeId} {sz by' : Nat} {zs : List Value} (hs : slOf P t = some (e, sz, by')) (hz : zeroOf P e = some zs) (hpos : 0 < sz) {s g : Nat} {es es2 : List (List D)} {u uy : Value}
    (hlk : look S.heap s = some (g, .row e sz es)) (hu : C.val s g = some u)
    (hsrc : ∃ (ao : Option Addr) (cap : Nat), uy = .slice ao es2.length cap ∧ (∀ e ∈ es2, e.length = sz) ∧
      (es2 ≠ [] → ∃ (ad : Addr) (news : List Value), ao = some ad ∧ news.length = es2.length * sz ∧ (∀ (j : Nat) x, news[j]? = some x → w.cell? (ad.add j) = some x) ∧ (∀ x ∈ news, x.oneCell' = true) ∧
        ∀ (i j : Nat) e c x, es2[i]? = some e → e[j]? = some c → news[i * sz + j]? = some x → Rep C w c x))
    (hb : (es.length + es2.length) * (by' + 1) ≤ 140737488355328) :
    ∃ v' w' g' C', (Builtin.append_ #[t, t] ty #[u, uy]).run P w = .ok v' w' ∧ C'.val s g' = some v' ∧ v'.oneCell' = true ∧ Inv w0 B C0 n (S.hput s g' (.row e sz (es ++ es2))) C' a w' ∧ w.grownBy w' u.ownBlock ∧ Ext C w C' w' ∧
      (∀ b, blk v' = some b → blk u = some b ∨ b = w.heap.size) := by
  obtain ⟨inf, q1, q2, q3, q4⟩ := slOf_spec hs
  obtain ⟨inf', z, q2', hz1, _, hzs⟩ := zeroOf_spec hz
  rw [q2] at q2'
  simp only [Option.some.injEq] at q2'
  subst q2' q3 q4
  obtain ⟨ao, cap, rfl, hk2, hsr⟩ := hsrc
  obtain ⟨u', xs, hv, hl, hown, hk, hall⟩ := I.heap s g _ hlk
  rw [hu] at hv
  simp only [Option.some.injEq] at hv
  subst hv
  have hnm : es.length + es2.length ≤ 140737488355328 := by
    have : (es.length + es2.length) * 1 ≤ (es.length + es2.length) * (inf.bytes + 1) := Nat.mul_le_mul_left _ (by omega)
    omega
  have hbytes : (es.length + es2.length) * inf.bytes ≤ 140737488355328 := by
    have : (es.length + es2.length) * inf.bytes ≤ (es.length + es2.length) * (inf.bytes + 1) := Nat.mul_le_mul_left _ (by omega)
    omega
  obtain ⟨ao', cap', hus, _⟩ := ownsRow_slice hown
  by_cases hne : es2 = []
  · subst hne
    -- nothing is appended
    have hrun : (Builtin.append_ #[t, t] ty #[u, .slice ao ([] : List (List D)).length cap]).run P w = .ok u w := by
      subst hus
      rcases hown.2 with ⟨hnil, hn0⟩ | ⟨gb, cp, cur, hvv, _, hg, hnc, hcm, hcs, htake⟩
      · simp only [Value.slice.injEq] at hnil
        obtain ⟨rfl, _, rfl⟩ := hnil
        have hlc : (loadCells · 0 : Addr → Sem (Array Value)) = fun _ => pure #[] := by funext x; simp [loadCells, loadCellsFrom]
        cases ao with
        | none => simp [Builtin.append_, run_underlying q1, run_sizeOf' q2, Builtin.lenOf, Builtin.firstCells, hn0]
        | some ad => simp [Builtin.append_, run_underlying q1, run_sizeOf' q2, Builtin.lenOf, Builtin.firstCells, hn0, loadCells, loadCellsFrom]
      · simp only [Value.slice.injEq] at hvv
        obtain ⟨rfl, _, rfl⟩ := hvv
        cases ao with
        | none => simp [Builtin.append_, run_underlying q1, run_sizeOf' q2, Builtin.lenOf, Builtin.firstCells, hnc, storeCells]
        | some ad => simp [Builtin.append_, run_underlying q1, run_sizeOf' q2, Builtin.lenOf, Builtin.firstCells, hnc, loadCells, loadCellsFrom, storeCells]
    refine ⟨u, w, g, C, hrun, hu, by subst hus; rfl, ?_, ⟨rfl, rfl, rfl, Nat.le_refl _, fun _ _ _ => rfl⟩, Ext.refl _ _, fun b hb => .inl hb⟩
    rw [List.append_nil]
    refine ⟨I.size, I.defers, I.slots, fun s' g' b' hb' => ?_, fun s' g' b' x u' hx p1 p2 p3 => ?_, I.apart, I.bound, I.fresh, I.frame, I.old, I.owned, I.kept, fun s' g' y z hy hz => by
      rw [look_hput] at hy
      split at hy
      · rename_i es
        subst es
        simp only [Option.some.injEq, Prod.mk.injEq] at hy
        obtain ⟨rfl, rfl⟩ := hy
        exact I.ents _ _ _ z hlk hz
      · exact I.ents s' g' y z hy hz, I.dead0, I.bound0⟩
    · rw [look_hput] at hb'
      split at hb'
      · rename_i e1
        subst e1
        simp only [Option.some.injEq, Prod.mk.injEq] at hb'
        obtain ⟨rfl, rfl⟩ := hb'
        exact I.heap s g _ hlk
      · exact I.heap s' g' b' hb'
    · rw [look_hput] at hx
      split at hx
      · rename_i e1
        subst e1
        simp only [Option.some.injEq, Prod.mk.injEq] at hx
        obtain ⟨rfl, rfl⟩ := hx
        exact I.mine s g b' _ u' hlk p1 p2 p3
      · exact I.mine s' g' b' x u' hx p1 p2 p3
  · obtain ⟨ad, news, rfl, hnl, hnews, hone, hrep⟩ := hsr hne
    obtain ⟨v', w', hrun, hown', hg, _, hat⟩ := run_append_own_at (P := P) w 0 t ty e inf z inf.size inf.bytes q1 q2 hz1 rfl rfl hzs hpos u es.length xs hown ad es2.length cap news hnl hnews hone
      (by simp only [maxLen]; omega) hbytes (Nat.zero_le _)
    obtain ⟨ao2, cap2, hvs, _⟩ := ownsRow_slice hown'
    obtain ⟨g', C', I', hv', e'⟩ := I.regrow (v' := v') (x' := .row e inf.size (es ++ es2)) hlk hu hl (blk_own hus) (blk_own hvs) hg hat (fun k hk' => (hown'.lt k hk').2) (fun C' g' ex hv hl =>
      ⟨v', xs ++ news, hv, hl, by rw [List.length_append]; exact hown', fun x hx => by
        rcases List.mem_append.1 hx with h | h
        · exact hk x h
        · exact hk2 x h, append_cells ex hown.1 hk hk2 hall hrep hone⟩)
    exact ⟨v', w', g', C', hrun, hv', by subst hvs; rfl, I', hg, e', fun b hb => by
      rw [blk_own hvs] at hb
      rw [blk_own hus]
      rcases hat with h | h
      · exact .inl (h ▸ hb)
      · rw [h] at hb; simp only [Option.some.injEq] at hb; exact .inr hb.symm⟩

theorem append_step (I : Inv w0 B C0 n S C a w) {o : Oper} {t e : TypeId} {sz by' : Nat} {x y : Operand} {t' : Nat} {zs : List Value} {K : St → Prop} (ho : o.op = .call { callee := .builtin .append, args := #[x, y], argTypes := #[t, t] }) (hd : o.dst = some t') (ht : t' < n)
    (hs : slOf P t = some (e, sz, by')) (hz : zeroOf P e = some zs) (hpos : 0 < sz) (h : evK true S x fun dx => evK true S y fun dy => appK S e sz by' t' dx dy K) (Q : Exit → Act → World → Prop) :
    o.wp P a w (fun a' w' => ∃ S' C', K S' ∧ Inv w0 B C0 n S' C' a' w' ∧ (∀ we : World, (∀ b, blk (a.eval x) = some b → we.heap.size ≤ b) → Same we w → Same we w') ∧
      Trk S C w S' C' ∧ (a.eval x = .slice none 0 0 → (∀ s g, ¬ evK true S x fun d => d = .own s g) → NewAt w S' C' t')) Q := by
  obtain ⟨dx, ⟨hx, hevx⟩, hrx⟩ := evK_ok I (evK_self h)
  obtain ⟨dy, hy, hry⟩ := evK_ok I hx
  have hrx := hrx rfl
  have hry := hry rfl
  have fin : ∀ v' w', (Builtin.append_ #[t, t] o.type #[a.eval x, a.eval y]).run P w = .ok v' w' → (execOp a.eval o).run P w = .ok (.value v') w' := fun v' w' hr => by
    simp [execOp, ho, resolve, invoke, builtin, hr]
  unfold appK at hy
  cases hsrc : srcOf S sz dy with
  | none => rw [hsrc] at hy; exact hy.elim
  | some es2 =>
    rw [hsrc] at hy
    obtain ⟨h1, hy⟩ := hy
    have h1 := oneLL_ok h1
    cases dx with
    | own s g =>
      simp only at hy
      cases hro : rowOf S s g with
      | none => rw [hro] at hy; exact hy.elim
      | some p =>
        obtain ⟨e', k, es⟩ := p
        rw [hro] at hy
        obtain ⟨rfl, rfl, hb, hK⟩ := hy
        generalize hX : a.eval x = ux at hrx fin
        cases hrx with
        | own _ _ _ hv _ =>
          obtain ⟨v', w', g', C', hrun, hv', ho1, I', hg, ext, hblk⟩ := app_own (ty := o.type) I hs hz hpos (rowOf_spec hro) hv (src_ok I hpos hsrc hry h1) hb
          refine wp_val (fin _ _ hrun) ?_
          rw [hd]
          refine ⟨_, C', hK g', I'.put ht (.own s g' _ hv' ho1), fun we hb hsm => ⟨Nat.le_trans hsm.1 hg.size, fun b hlt => ?_⟩, fun s' g'' x' u' b hx' hu' hb' => ?_, fun _ hno => absurd hevx (hno s g)⟩
          rotate_left
          · have hx2 : look (S.hput s g' (.row e' k (es ++ es2))).heap s' = some (g'', x') := hx'
            rw [look_hput] at hx2
            split at hx2
            · rename_i e1
              subst e1
              simp only [Option.some.injEq, Prod.mk.injEq] at hx2
              obtain ⟨rfl, rfl⟩ := hx2
              rw [hv'] at hu'
              simp only [Option.some.injEq] at hu'
              subst hu'
              rcases hblk b hb' with h | h
              · exact .inr ⟨g, _, _, rowOf_spec hro, hv, h⟩
              · exact .inl (by omega)
            · obtain ⟨y, hy⟩ := hrep_val (I.heap s' g'' x' hx2)
              have := ext.val _ _ _ hy
              rw [hu'] at this
              simp only [Option.some.injEq] at this
              subst this
              exact .inr ⟨g'', x', u', hx2, hy, hb'⟩
          refine (hg.block b (Nat.lt_of_lt_of_le hlt hsm.1) (fun eb => ?_)).trans (hsm.2 b hlt)
          obtain ⟨_, xs, hv2, _, hown, _, _⟩ := I.heap s g _ (rowOf_spec hro)
          rw [hv] at hv2
          simp only [Option.some.injEq] at hv2
          obtain ⟨ao, cap, hus, _⟩ := ownsRow_slice hown
          rw [← hv2] at hus
          have := hb b (by rw [blk_own hus]; exact eb.symm)
          omega
    | v ux =>
      split at hy <;> try (rename_i heq; cases heq)
      · obtain ⟨hb, hK⟩ := hy
        obtain ⟨ao, cap, huy, hk2, hsr⟩ := src_ok I hpos hsrc hry h1
        obtain ⟨g, C1, I1, hv, ex⟩ := I.nameNil t' e sz
        have hxe := hrx.v_inv
        rw [hxe] at fin
        have hlk : look (S.hput t' g (.row e sz [])).heap t' = some (g, .row e sz []) := by rw [look_hput, if_pos rfl]
        obtain ⟨v', w', g', C', hrun, hv', ho1, I', hg, ext, hblk⟩ := app_own (ty := o.type) I1 hs hz hpos hlk hv (uy := a.eval y) (es2 := es2)
          ⟨ao, cap, huy, hk2, fun hne => by
            obtain ⟨ad, news, p1, p2, p3, p4, p5⟩ := hsr hne
            exact ⟨ad, news, p1, p2, p3, p4, fun i j e c x q1 q2 q3 => (p5 i j e c x q1 q2 q3).mono ex⟩⟩ (by simpa using hb)
        refine wp_val (fin _ _ hrun) ?_
        rw [hd]
        have hnew : ∀ b, blk v' = some b → w.heap.size ≤ b := fun b hb' => by
          rcases hblk b hb' with h | h
          · cases h
          · omega
        have hput2 : ∀ s' g'' x', look ((S.hput t' g' (.row e sz es2)).put t' (.own t' g')).heap s' = some (g'', x') → (s' = t' ∧ g'' = g') ∨ (s' ≠ t' ∧ look S.heap s' = some (g'', x')) := fun s' g'' x' h => by
          have h2 : look (S.hput t' g' (.row e sz es2)).heap s' = some (g'', x') := h
          rw [look_hput] at h2
          split at h2
          · rename_i e1; simp only [Option.some.injEq, Prod.mk.injEq] at h2; exact .inl ⟨e1.symm, h2.1.symm⟩
          · rename_i e1; exact .inr ⟨fun h => e1 h.symm, h2⟩
        refine ⟨_, C', hK g', ?_, fun we _ hsm => ⟨Nat.le_trans hsm.1 hg.size, fun b hlt => (hg.block b (Nat.lt_of_lt_of_le hlt hsm.1) (by simp [Value.ownBlock])).trans (hsm.2 b hlt)⟩, fun s' g'' x' u' b hx' hu' hb' => ?_, fun _ _ g'' x' u' b hx' hu' hb' => ?_⟩
        rotate_left
        · rcases hput2 s' g'' x' hx' with ⟨rfl, rfl⟩ | ⟨hne, h2⟩
          · rw [hv'] at hu'
            simp only [Option.some.injEq] at hu'
            subst hu'
            exact .inl (hnew b hb')
          · obtain ⟨y, hy⟩ := hrep_val (I.heap s' g'' x' h2)
            have := ext.val _ _ _ (ex.val _ _ _ hy)
            rw [hu'] at this
            simp only [Option.some.injEq] at this
            subst this
            exact .inr ⟨g'', x', u', h2, hy, hb'⟩
        · rcases hput2 t' g'' x' hx' with ⟨_, rfl⟩ | ⟨hne, _⟩
          · rw [hv'] at hu'
            simp only [Option.some.injEq] at hu'
            subst hu'
            exact hnew b hb'
          · exact absurd rfl hne
        have I2 := I'.put ht (.own t' g' _ hv' ho1)
        refine ⟨I2.size, I2.defers, I2.slots, fun s' g'' b' hb' => ?_, fun s' g'' b' x u' hx p1 p2 p3 => ?_, I2.apart, I2.bound, I2.fresh, I2.frame, I2.old, I2.owned, I2.kept, fun s' g'' y z hy hz => by
          have : look ((S.hput t' g' (.row e sz es2)).put t' (.own t' g')).heap s' = look (((S.hput t' g (.row e sz [])).hput t' g' (.row e sz ([] ++ es2))).put t' (.own t' g')).heap s' := by
            simp only [St.put, St.hput, look, List.nil_append]
            split <;> rfl
          exact I2.ents s' g'' y z (this ▸ hy) hz, I2.dead0, I2.bound0⟩
        · have : look ((S.hput t' g' (.row e sz es2)).put t' (.own t' g')).heap s' = look (((S.hput t' g (.row e sz [])).hput t' g' (.row e sz ([] ++ es2))).put t' (.own t' g')).heap s' := by
            simp only [St.put, St.hput, look, List.nil_append]
            split <;> rfl
          exact I2.heap s' g'' b' (this ▸ hb')
        · have : look ((S.hput t' g' (.row e sz es2)).put t' (.own t' g')).heap s' = look (((S.hput t' g (.row e sz [])).hput t' g' (.row e sz ([] ++ es2))).put t' (.own t' g')).heap s' := by
            simp only [St.put, St.hput, look, List.nil_append]
            split <;> rfl
          exact I2.mine s' g'' b' x u' (this ▸ hx) p1 p2 p3
      · exact hy.elim
    | _ => exact hy.elim
end
end Go.Eng
