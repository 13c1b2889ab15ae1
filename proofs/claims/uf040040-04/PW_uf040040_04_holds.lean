import PyProof.Rows.All
import PyProof.CompFree
import PyProof.Cells
import PyProof.Rows.EqDataRows
import PyProof.Rows.Top
import PyProof.StationsW
import PyProof.WalkInts
import PyProof.Rows.SeqCalls
import PyProof.WalksMore
import PyProof.RangeFor
import PyProof.CompMap
import PyProof.SliceMore
import PyProof.ListOps
import PyProof.Rows.StrTemp
import PyProof.Rows.RuleB_floordiv
import PyProof.Rows.RuleB_mod
import PyProof.Rows.RuleB_mul
import PyProof.Rows.RuleU_int
import PyProof.Rows.StrRules
import PyProof.Rows.RuleC_int
import PyProof.Rows.Nodes
import PyProof.Rows.IntRules
import PyProof.Calls
import PyProof.ForRange
import PyProof.Rules3
import PyProof.TupleIter
import PyProof.Rows.TupSub
import PyProof.CallRoads
import PyProof.Raises
import PyProof.Dict
import PyProof.IsiPairs
import PyProof.IsiHeapPairs
import PyProof.IsiNone
import PyProof.ListCopy
import PyProof.Methods
import PyProof.StrOps
import PyProof.Rows.SumAny
import PyProof.Rows.RuleN_abs
import PyProof.FactsAll.list_0
import PyProof.Rows.Tup
import Wide.Well
import Wide.OfPy
import Wide.Bridge
import Wide.BridgeG
import PyProof.Rows.Walk
import Wide.All
import OpenK.AllK
import Wide.FinOn
import PySem.Challenge.RW_uf040040_04

set_option Elab.async false
set_option autoImplicit false
set_option linter.unusedVariables false
namespace Mine
open PySem PySem.Spec PySem.Calls PyProof.Rows

/-- abstract values: flat data; a cell of the store; an exception of an own class; a global name's value; a range; a zip of two lists -/
inductive V where
  | d (x : PyData)
  | ref (i : Nat)
  | exc (c : Str)
  | glob (x : Str)
  | rng (lo hi : Int)
  | zip (i j : Nat)

inductive Cell where
  | lst (xs : List V)
  | rol (xs : List V)

noncomputable def Cell.items : Cell → List V
  | .lst xs => xs
  | .rol xs => xs
noncomputable def Cell.owned : Cell → Bool
  | .lst _ => true
  | .rol _ => false

noncomputable abbrev Store := List Cell
noncomputable abbrev Loc := Str → Option V

/-- the fixed surroundings of a law's call -/
structure Cx where
  prog : Program
  w : World
  B : Heap
  mg : Str → Option Value
  mb : Str → Option Value

structure CxOk (X : Cx) : Prop where
  g : X.B.Ns mainGlobals X.mg
  b : X.B.Ns builtinsNs X.mb
  nolimit : X.B.NoLimit

noncomputable def Cx.val (X : Cx) (x : Str) : Option Value := (X.mg x).or (X.mb x)

inductive Has (X : Cx) (n : Nat) (ρ : Nat → Addr) (h : Heap) : V → Value → Prop
  | d {x v} : Reads h v x [] → Has X n ρ h (.d x) v
  | ref {i} : i < n → Has X n ρ h (.ref i) (.ref (ρ i))
  | exc {c C a o fs} : X.mg c = some (.ref C) → h.get? a = some o → o.cls = .ref C → o.data = .fields fs → Has X n ρ h (.exc c) (.ref a)
  | glob {x v} : X.val x = some v → Has X n ρ h (.glob x) v
  | rng {lo hi a t u v} : IsRange h a lo hi 1 t u v → Builtin.Range.small lo hi 1 = true → Has X n ρ h (.rng lo hi) (.ref a)

inductive HasAll (X : Cx) (n : Nat) (ρ : Nat → Addr) (h : Heap) : List V → List Value → Prop
  | nil : HasAll X n ρ h [] []
  | cons {v vs a as} : Has X n ρ h v a → HasAll X n ρ h vs as → HasAll X n ρ h (v :: vs) (a :: as)

noncomputable def CellAt (X : Cx) (n : Nat) (ρ : Nat → Addr) (h : Heap) (a : Addr) (c : Cell) : Prop :=
  ∃ items : List Value, h.PlainList a items.toArray ∧ HasAll X n ρ h c.items items

structure Rep (X : Cx) (ρ : Nat → Addr) (σ : Store) (h : Heap) : Prop where
  base : ∀ b o, X.B.get? b = some o → h.get? b = some o
  cell : ∀ i c, σ[i]? = some c → CellAt X σ.length ρ h (ρ i) c
  own : ∀ i c, σ[i]? = some c → c.owned = true → X.B.get? (ρ i) = none
  inj : ∀ i j, i < σ.length → j < σ.length → ρ i = ρ j → i = j

noncomputable def NoDict (o : Obj) : Prop := ∀ es n, o.data ≠ .dict es n

/-- what an evaluation that may write at W (and at the store's cells) leaves of the heap before it -/
structure Go (W : Addr → Prop) (σ : Store) (ρ : Nat → Addr) (h : Heap) (σ' : Store) (ρ' : Nat → Addr) (h' : Heap) : Prop where
  size : h.objs.size ≤ h'.objs.size
  keep : ∀ b o, h.get? b = some o → ¬ W b → (∀ i, i < σ.length → b ≠ ρ i) → ∃ sl, h'.get? b = some { o with slots := sl } ∧ (NoDict o → sl = o.slots)
  dicts : ∀ b o es n, h.get? b = some o → o.data = .dict es n → ∃ o' es' n', h'.get? b = some o' ∧ o'.data = .dict es' n'
  len : σ.length ≤ σ'.length
  ext : ∀ i, i < σ.length → ρ' i = ρ i
  new : ∀ i, σ.length ≤ i → i < σ'.length → h.objs.size ≤ ρ' i

noncomputable abbrev Nowhere : Addr → Prop := fun _ => False

theorem Go.refl (W : Addr → Prop) (σ : Store) (ρ : Nat → Addr) (h : Heap) : Go W σ ρ h σ ρ h :=
  ⟨Nat.le_refl _, fun b o e _ _ => ⟨o.slots, e, fun _ => rfl⟩, fun b o es n e d => ⟨o, es, n, e, d⟩, Nat.le_refl _, fun _ _ => rfl, fun _ h1 h2 => absurd h2 (Nat.not_lt.mpr h1)⟩

theorem Go.trans {W : Addr → Prop} {σ₁ σ₂ σ₃ : Store} {ρ₁ ρ₂ ρ₃ : Nat → Addr} {h₁ h₂ h₃ : Heap} (x : Go W σ₁ ρ₁ h₁ σ₂ ρ₂ h₂) (y : Go W σ₂ ρ₂ h₂ σ₃ ρ₃ h₃) : Go W σ₁ ρ₁ h₁ σ₃ ρ₃ h₃ where
  size := Nat.le_trans x.size y.size
  keep := fun b o e hw hb => by
    obtain ⟨sl, e1, f1⟩ := x.keep b o e hw hb
    have hb2 : ∀ i, i < σ₂.length → b ≠ ρ₂ i := fun i hi => by
      by_cases hlt : i < σ₁.length
      · rw [x.ext i hlt]; exact hb i hlt
      · exact Nat.ne_of_lt (Nat.lt_of_lt_of_le (Heap.lt_size e) (x.new i (Nat.not_lt.mp hlt) hi))
    obtain ⟨sl', e2, f2⟩ := y.keep b _ e1 hw hb2
    exact ⟨sl', e2, fun hc => (f2 hc).trans (f1 hc)⟩
  dicts := fun b o es n e d => by
    obtain ⟨o', es', n', e', d'⟩ := x.dicts b o es n e d
    exact y.dicts b o' es' n' e' d'
  len := Nat.le_trans x.len y.len
  ext := fun i hi => (y.ext i (Nat.lt_of_lt_of_le hi x.len)).trans (x.ext i hi)
  new := fun i h1 h2 => by
    by_cases hlt : i < σ₂.length
    · rw [y.ext i hlt]; exact x.new i h1 hlt
    · exact Nat.le_trans x.size (y.new i (Nat.not_lt.mp hlt) h2)

theorem Go.weaken {W W' : Addr → Prop} {σ σ' : Store} {ρ ρ' : Nat → Addr} {h h' : Heap} (x : Go W σ ρ h σ' ρ' h') (hw : ∀ b o, h.get? b = some o → W b → W' b) : Go W' σ ρ h σ' ρ' h' :=
  { x with keep := fun b o e hn hb => x.keep b o e (fun q => hn (hw b o e q)) hb }

mutual
theorem reads_flat {h h' : Heap} (hk : ∀ b o, h.get? b = some o → o.cls = .type "tuple" → (∃ vs n, o.data = .seq vs n) → h'.get? b = some o) : ∀ {v : Value} {d : PyData} {as : List Addr}, Reads h v d as → as = [] → Reads h' v d as
  | _, _, _, .none, _ => .none
  | _, _, _, .bool b, _ => .bool b
  | _, _, _, .int i t, _ => .int i t
  | _, _, _, .str x t, _ => .str x t
  | _, _, _, .list _ _ _ _, e => nomatch e
  | _, _, _, .tuple h1 h2 h3 h4, e => .tuple (hk _ _ h1 h2 ⟨_, _, h3⟩) h2 h3 (readsAll_flat hk h4 e)
  | _, _, _, .dict _ _ _ _ _, e => nomatch e
theorem readsAll_flat {h h' : Heap} (hk : ∀ b o, h.get? b = some o → o.cls = .type "tuple" → (∃ vs n, o.data = .seq vs n) → h'.get? b = some o) : ∀ {vs : List Value} {ds : List PyData} {as : List Addr}, ReadsAll h vs ds as → as = [] → ReadsAll h' vs ds as
  | _, _, _, .nil, _ => .nil
  | _, _, _, .cons h1 h2, e => .cons (reads_flat hk h1 (List.append_eq_nil_iff.mp e).1) (readsAll_flat hk h2 (List.append_eq_nil_iff.mp e).2)
end

noncomputable def iterTypes : List String := ["list_iterator", "tuple_iterator", "range_iterator", "zip", "str_ascii_iterator", "str_iterator"]

/-- objects that no evaluation turns -/
structure Still (o : Obj) : Prop where
  cls : o.cls ≠ .type "list"
  noiter : ∀ T ∈ iterTypes, o.cls ≠ .type T
  nodict : NoDict o
  nocell : ∀ v, o.data ≠ .cell v

theorem Still.tuple {o : Obj} (hc : o.cls = .type "tuple") {vs n} (hd : o.data = .seq vs n) : Still o :=
  ⟨by rw [hc]; decide, by rw [hc]; decide, fun es n' e => by rw [hd] at e; (exact nomatch e), fun v e => by rw [hd] at e; (exact nomatch e)⟩
theorem Still.fields {o : Obj} (hc : o.cls ≠ .type "list") (hi : ∀ T ∈ iterTypes, o.cls ≠ .type T) {vs} (hd : o.data = .fields vs) : Still o :=
  ⟨hc, hi, fun es n' e => by rw [hd] at e; (exact nomatch e), fun v e => by rw [hd] at e; (exact nomatch e)⟩

section
variable {X : Cx} {n n' : Nat} {ρ ρ' : Nat → Addr} {h h' : Heap} {σ σ' : Store} {W : Addr → Prop}

theorem HasAll.length {vs : List V} {as : List Value} (x : HasAll X n ρ h vs as) : vs.length = as.length := by
  induction x with
  | nil => rfl
  | cons _ _ ih => simp [ih]

theorem HasAll.get {vs : List V} {as : List Value} (x : HasAll X n ρ h vs as) {k : Nat} {v : V} (hv : vs[k]? = some v) : ∃ a, as[k]? = some a ∧ Has X n ρ h v a := by
  induction x generalizing k with
  | nil => simp at hv
  | cons h1 _ ih =>
    cases k with
    | zero => simp at hv; subst hv; exact ⟨_, rfl, h1⟩
    | succ k => simpa using ih (by simpa using hv)

theorem HasAll.append {vs ws : List V} {as bs : List Value} (x : HasAll X n ρ h vs as) (y : HasAll X n ρ h ws bs) : HasAll X n ρ h (vs ++ ws) (as ++ bs) := by
  induction x with
  | nil => exact y
  | cons h1 _ ih => exact .cons h1 ih

theorem HasAll.one {v : V} {a : Value} (x : Has X n ρ h v a) : HasAll X n ρ h [v] [a] := .cons x .nil

theorem Has.mono {v : V} {a : Value} (x : Has X n ρ h v a) (hn : n ≤ n') (hρ : ∀ i, i < n → ρ' i = ρ i)
    (hk : ∀ b o, h.get? b = some o → Still o → h'.get? b = some o) : Has X n' ρ' h' v a := by
  cases x with
  | d r => exact .d (reads_flat (fun b o e hc hs => let ⟨_, _, hd⟩ := hs; hk b o e (.tuple hc hd)) r rfl)
  | ref hi => rw [← hρ _ hi]; exact .ref (Nat.lt_of_lt_of_le hi hn)
  | exc h1 h2 h3 h4 => exact .exc h1 (hk _ _ h2 (.fields (by rw [h3]; exact fun e => nomatch e) (by rw [h3]; exact fun _ _ e => nomatch e) h4)) h3 h4
  | glob h1 => exact .glob h1
  | rng h1 h2 => exact .rng (hk _ _ h1 (.fields (show Value.type "range" ≠ .type "list" by decide) (show ∀ T ∈ iterTypes, Value.type "range" ≠ .type T by decide) rfl)) h2

theorem HasAll.mono {vs : List V} {as : List Value} (x : HasAll X n ρ h vs as) (hn : n ≤ n') (hρ : ∀ i, i < n → ρ' i = ρ i)
    (hk : ∀ b o, h.get? b = some o → Still o → h'.get? b = some o) : HasAll X n' ρ' h' vs as := by
  induction x with
  | nil => exact .nil
  | cons h1 _ ih => exact .cons (h1.mono hn hρ hk) ih

theorem Rep.notCell (R : Rep X ρ σ h) {b : Addr} {o : Obj} (e : h.get? b = some o) (ho : o.cls ≠ .type "list") : ∀ i, i < σ.length → b ≠ ρ i := by
  rintro i hi rfl
  obtain ⟨items, ⟨k, hp⟩, _⟩ := R.cell i _ (List.getElem?_eq_getElem hi)
  rw [hp] at e
  cases e
  exact ho rfl

/-- W holds namespaces and cells alone -/
noncomputable def WOk (W : Addr → Prop) (h : Heap) : Prop := ∀ b o, W b → h.get? b = some o → (∃ es n, o.data = .dict es n) ∨ ∃ v, o.data = .cell v

theorem WOk.nowhere : WOk Nowhere h := fun _ _ x => x.elim

theorem Go.still (R : Rep X ρ σ h) (g : Go W σ ρ h σ' ρ' h') (w : WOk W h) : ∀ b o, h.get? b = some o → Still o → h'.get? b = some o := by
  intro b o e hs
  have hnw : ¬ W b := fun q => by
    rcases w b o q e with ⟨es, n, hd⟩ | ⟨v, hd⟩
    · exact hs.nodict es n hd
    · exact hs.nocell v hd
  obtain ⟨sl, e1, f1⟩ := g.keep b o e hnw (R.notCell e hs.cls)
  rw [f1 hs.nodict] at e1
  exact e1

theorem Has.go {v : V} {a : Value} (x : Has X σ.length ρ h v a) (R : Rep X ρ σ h) (g : Go W σ ρ h σ' ρ' h') (w : WOk W h) : Has X σ'.length ρ' h' v a :=
  x.mono g.len g.ext (g.still R w)
theorem HasAll.go {vs : List V} {as : List Value} (x : HasAll X σ.length ρ h vs as) (R : Rep X ρ σ h) (g : Go W σ ρ h σ' ρ' h') (w : WOk W h) : HasAll X σ'.length ρ' h' vs as :=
  x.mono g.len g.ext (g.still R w)
end

/-- the addresses that a frame writes at -/
noncomputable def Wr (env : Env) : Addr → Prop := fun b => b = env.locals ∨ ∃ x, env.cells.lookup x = some b

noncomputable abbrev Kinds := Str → Option NameKind

structure KindsOk (sc : Kinds) (env : Env) : Prop where
  loc : ∀ x, sc x = some .local → env.kindOf x = some .local
  cell : ∀ x, sc x = some .cell → env.kindOf x = some .cell
  free : ∀ x, sc x = some .free → env.kindOf x = some .cell ∨ env.kindOf x = some .free
  glob : ∀ x, sc x = some .globalImplicit → env.kindOf x = some .globalImplicit
  debug : sc ("__debug__" : Str) = none
  classdict : sc ("__classdict__" : Str) = none

/-- the frame at hand: its names -/
structure Frm (X : Cx) (env : Env) (sc : Kinds) (m : Loc) (n : Nat) (ρ : Nat → Addr) (h : Heap) : Prop where
  kind : env.scope.kind = .function
  glob : env.globals = mainGlobals
  bi : env.builtins = builtinsNs
  kinds : KindsOk sc env
  ns : ∃ mm, h.Ns env.locals mm ∧ ∀ x v, sc x = some .local → m x = some v → ∃ a, mm x = some a ∧ Has X n ρ h v a
  cells : ∀ x, sc x = some .cell ∨ sc x = some .free → ∃ c ov, env.cells.lookup x = some c ∧ h.IsCell c ov ∧ ∀ v, m x = some v → ∃ a, ov = some a ∧ Has X n ρ h v a
  isCells : ∀ x c, env.cells.lookup x = some c → ∃ ov, h.IsCell c ov
  sepL : ∀ i, i < n → ρ i ≠ env.locals
  newL : X.B.get? env.locals = none
  newC : ∀ x c, env.cells.lookup x = some c → X.B.get? c = none
  apart : ∀ x y c, env.cells.lookup x = some c → env.cells.lookup y = some c → x = y

theorem Frm.wok {X : Cx} {env : Env} {sc : Kinds} {m : Loc} {n : Nat} {ρ : Nat → Addr} {h : Heap} (F : Frm X env sc m n ρ h) : WOk (Wr env) h := by
  rintro b o (rfl | ⟨x, hx⟩) e
  · obtain ⟨mm, ⟨o', es, ep, e', d, _⟩, _⟩ := F.ns
    rw [e] at e'; cases e'
    exact .inl ⟨es, ep, d⟩
  · obtain ⟨ov, o', e', d⟩ := F.isCells x b hx
    rw [e] at e'; cases e'
    exact .inr ⟨ov, d⟩

/-- an expression's evaluation leaves the frame's names -/
theorem Frm.go {X : Cx} {env : Env} {sc : Kinds} {m : Loc} {σ σ' : Store} {ρ ρ' : Nat → Addr} {h h' : Heap} (F : Frm X env sc m σ.length ρ h) (R : Rep X ρ σ h) (g : Go Nowhere σ ρ h σ' ρ' h') : Frm X env sc m σ'.length ρ' h' := by
  have hnc : ∀ c ov, h.IsCell c ov → h'.IsCell c ov := fun c ov ⟨o, e, d⟩ => by
    have hne : ∀ i, i < σ.length → c ≠ ρ i := by
      rintro i hi rfl
      obtain ⟨items, ⟨k, hp⟩, _⟩ := R.cell i _ (List.getElem?_eq_getElem hi)
      rw [hp] at e; cases e; exact nomatch d
    obtain ⟨sl, e1, _⟩ := g.keep c o e (fun x => x) hne
    exact ⟨_, e1, d⟩
  refine { F with ns := ?_, cells := ?_, isCells := ?_, sepL := ?_ }
  · obtain ⟨mm, ⟨o, es, ep, e, d, r⟩, hm⟩ := F.ns
    obtain ⟨sl, e1, _⟩ := g.keep _ o e (fun x => x) (fun i hi q => F.sepL i hi q.symm)
    exact ⟨mm, ⟨_, es, ep, e1, d, r⟩, fun x v h1 h2 => let ⟨a, h3, h4⟩ := hm x v h1 h2; ⟨a, h3, h4.go R g .nowhere⟩⟩
  · intro x hx
    obtain ⟨c, ov, h1, h2, h3⟩ := F.cells x hx
    exact ⟨c, ov, h1, hnc c ov h2, fun v hv => let ⟨a, h4, h5⟩ := h3 v hv; ⟨a, h4, h5.go R g .nowhere⟩⟩
  · intro x c hx
    obtain ⟨ov, h1⟩ := F.isCells x c hx
    exact ⟨ov, hnc c ov h1⟩
  · intro i hi
    by_cases hlt : i < σ.length
    · rw [g.ext i hlt]; exact F.sepL i hlt
    · obtain ⟨mm, ⟨o, es, ep, e, d, r⟩, hm⟩ := F.ns
      exact Nat.ne_of_gt (Nat.lt_of_lt_of_le (Heap.lt_size e) (g.new i (Nat.not_lt.mp hlt) hi))

/-- the frames of the stack -/
noncomputable def Frames (X : Cx) (h : Heap) (l : List Env) : Prop := ∀ env ∈ l, env.scope.kind ≠ .module ∧ ∃ L o es n, env.frame = some L ∧ X.B.get? L = none ∧ h.get? L = some o ∧ o.data = .dict es n

theorem Frames.go {X : Cx} {W : Addr → Prop} {σ σ' : Store} {ρ ρ' : Nat → Addr} {h h' : Heap} {l : List Env} (F : Frames X h l) (g : Go W σ ρ h σ' ρ' h') : Frames X h' l := by
  intro env he
  obtain ⟨h1, L, o, es, n, h2, h3, h4, h5⟩ := F env he
  obtain ⟨o', es', n', h6, h7⟩ := g.dicts L o es n h4 h5
  exact ⟨h1, L, o', es', n', h2, h3, h6, h7⟩

/-- the room, and the stack -/
structure Ar (X : Cx) (k : Nat) (A : Around) (env : Env) (h : Heap) : Prop where
  handled : A.handled = none
  depth : A.depth + k < recursionLimit
  units : A.units + 20 * k + 200 < cLine
  stack : ∃ fenv outer, A.frames = some (fenv :: outer) ∧ fenv.frame = env.frame ∧ Frames X h (fenv :: outer)

/-- the room, whatever frame calls -/
structure ArC (X : Cx) (k : Nat) (A : Around) (h : Heap) : Prop where
  handled : A.handled = none
  depth : A.depth + k < recursionLimit
  units : A.units + 20 * k + 200 < cLine
  stack : ∃ l, A.frames = some l ∧ Frames X h l

theorem Ar.c {X : Cx} {k : Nat} {A : Around} {env : Env} {h : Heap} (a : Ar X k A env h) : ArC X k A h :=
  ⟨a.handled, a.depth, a.units, let ⟨f, o, h1, _, h3⟩ := a.stack; ⟨f :: o, h1, h3⟩⟩

theorem Ar.go {X : Cx} {k : Nat} {A : Around} {env : Env} {W : Addr → Prop} {σ σ' : Store} {ρ ρ' : Nat → Addr} {h h' : Heap} (a : Ar X k A env h) (g : Go W σ ρ h σ' ρ' h') : Ar X k A env h' :=
  { a with stack := let ⟨f, o, h1, h2, h3⟩ := a.stack; ⟨f, o, h1, h2, h3.go g⟩ }

theorem Ar.reframe {X : Cx} {k : Nat} {A : Around} {env env' : Env} {h : Heap} (a : Ar X k A env h) (e : env'.frame = env.frame) : Ar X k A env' h :=
  { a with stack := let ⟨f, o, h1, h2, h3⟩ := a.stack; ⟨f, o, h1, h2.trans e.symm, h3⟩ }

/-- an own exception on its way through the frame env -/
structure Flies (X : Cx) (c : Str) (fr : Option Addr) (sz : Nat) (e : Addr) (h : Heap) : Prop where
  ex : ∃ C oe vs, X.mg c = some (.ref C) ∧ h.get? e = some oe ∧ oe.cls = .ref C ∧ oe.data = .fields vs ∧ vs.size = 6 ∧
    (vs[1]? = some .none ∨ ∃ T oT ts, vs[1]? = some (.ref T) ∧ T ≠ e ∧ sz ≤ T ∧ h.get? T = some oT ∧ oT.data = .fields ts ∧ oT.cls ≠ .type "list" ∧ 3 < ts.size ∧ (ts[3]? = some .none ∨ ∃ F, fr = some F ∧ ts[3]? = some (rawInt F)))
  new : sz ≤ e

theorem Flies.sz {X : Cx} {c : Str} {fr : Option Addr} {a b : Nat} {e : Addr} {h : Heap} (x : Flies X c fr a e h) (hab : b ≤ a) : Flies X c fr b e h := by
  obtain ⟨⟨C, oe, vs, h1, h2, h3, h4, h5, h6⟩, hn⟩ := x
  refine ⟨⟨C, oe, vs, h1, h2, h3, h4, h5, h6.imp id ?_⟩, Nat.le_trans hab hn⟩
  rintro ⟨T, oT, ts, a1, a2, a3, r⟩
  exact ⟨T, oT, ts, a1, a2, Nat.le_trans hab a3, r⟩

theorem Flies.any {X : Cx} {c : Str} {fr : Option Addr} {a : Nat} {e : Addr} {h : Heap} (x : Flies X c none a e h) : Flies X c fr a e h := by
  obtain ⟨⟨C, oe, vs, h1, h2, h3, h4, h5, h6⟩, hn⟩ := x
  refine ⟨⟨C, oe, vs, h1, h2, h3, h4, h5, h6.imp id ?_⟩, hn⟩
  rintro ⟨T, oT, ts, a1, a2, a3, a4, a5, a6, a7, a8⟩
  exact ⟨T, oT, ts, a1, a2, a3, a4, a5, a6, a7, a8.imp id fun ⟨F, q, _⟩ => nomatch q⟩

inductive OutE where
  | val (v : V) (σ : Store)
  | exn (c : Str) (σ : Store)
inductive OutS where
  | next (m : Loc) (σ : Store)
  | ret (v : V) (σ : Store)
  | exn (c : Str) (m : Loc) (σ : Store)

noncomputable def OkE (X : Cx) (σ : Store) (ρ : Nat → Addr) (s : Shared) (K : OutE → Prop) (Q : Value → Shared → Prop) : Prop :=
  ∀ v σ' ρ' a h' tk, K (.val v σ') → Rep X ρ' σ' h' → Go Nowhere σ ρ s.heap σ' ρ' h' → Has X σ'.length ρ' h' v a → Q a { s with heap := h', toks := tk }
noncomputable def ErE (X : Cx) (fr : Option Addr) (σ : Store) (ρ : Nat → Addr) (s : Shared) (K : OutE → Prop) (E : Value → Shared → Prop) : Prop :=
  ∀ c σ' ρ' e h' tk, K (.exn c σ') → Rep X ρ' σ' h' → Go Nowhere σ ρ s.heap σ' ρ' h' → Flies X c fr s.heap.objs.size e h' → E (.ref e) { s with heap := h', toks := tk }

/-- what the tree t makes of m, σ -/
noncomputable def SE (X : Cx) (k : Nat) (env : Env) (sc : Kinds) (t : Sem Value) (m : Loc) (σ : Store) (K : OutE → Prop) : Prop :=
  ∀ (A : Around) (s : Shared) (ρ : Nat → Addr) (Q E : Value → Shared → Prop), Ar X k A env s.heap → Rep X ρ σ s.heap → Frm X env sc m σ.length ρ s.heap →
    OkE X σ ρ s K Q → ErE X env.frame σ ρ s K E → wpAny (model X.prog X.w) A t Q E s

noncomputable def SS (X : Cx) (k : Nat) (env : Env) (sc : Kinds) (t : Sem Flow) (m : Loc) (σ : Store) (K : OutS → Prop) : Prop :=
  ∀ (A : Around) (s : Shared) (ρ : Nat → Addr) (Q : Flow → Shared → Prop) (E : Value → Shared → Prop), Ar X k A env s.heap → Rep X ρ σ s.heap → Frm X env sc m σ.length ρ s.heap →
    (∀ m' σ' ρ' h' tk, K (.next m' σ') → Rep X ρ' σ' h' → Go (Wr env) σ ρ s.heap σ' ρ' h' → Frm X env sc m' σ'.length ρ' h' → Q .next { s with heap := h', toks := tk }) →
    (∀ v σ' ρ' a h' tk, K (.ret v σ') → Rep X ρ' σ' h' → Go (Wr env) σ ρ s.heap σ' ρ' h' → Has X σ'.length ρ' h' v a → Q (.ret a) { s with heap := h', toks := tk }) →
    (∀ c m' σ' ρ' e h' tk, K (.exn c m' σ') → Rep X ρ' σ' h' → Go (Wr env) σ ρ s.heap σ' ρ' h' → Frm X env sc m' σ'.length ρ' h' → Flies X c env.frame s.heap.objs.size e h' → E (.ref e) { s with heap := h', toks := tk }) →
    wpAny (model X.prog X.w) A t Q E s

noncomputable def thenE (K : OutE → Prop) (f : V → Store → Prop) : OutE → Prop
  | .val v σ => f v σ
  | .exn c σ => K (.exn c σ)

section
variable {X : Cx} {k : Nat} {env : Env} {sc : Kinds} {m : Loc} {σ : Store} {K : OutE → Prop}

theorem ErE.after {fr : Option Addr} {σ₁ : Store} {ρ ρ₁ : Nat → Addr} {s : Shared} {h₁ : Heap} {tk : Nat} {E : Value → Shared → Prop} (x : ErE X fr σ ρ s K E) (g : Go Nowhere σ ρ s.heap σ₁ ρ₁ h₁) : ErE X fr σ₁ ρ₁ { s with heap := h₁, toks := tk } K E :=
  fun c σ' ρ' e h' tk' hK R' g' fl => x c σ' ρ' e h' tk' hK R' (g.trans g') (fl.sz g.size)
theorem OkE.after {σ₁ : Store} {ρ ρ₁ : Nat → Addr} {s : Shared} {h₁ : Heap} {tk : Nat} {Q : Value → Shared → Prop} (x : OkE X σ ρ s K Q) (g : Go Nowhere σ ρ s.heap σ₁ ρ₁ h₁) : OkE X σ₁ ρ₁ { s with heap := h₁, toks := tk } K Q :=
  fun v σ' ρ' a h' tk' hK R' g' hv => x v σ' ρ' a h' tk' hK R' (g.trans g') hv

theorem ErE.none {fr : Option Addr} {ρ : Nat → Addr} {s : Shared} {E : Value → Shared → Prop} (x : ErE X fr σ ρ s K E) : ErE X none σ ρ s K E :=
  fun c σ' ρ' e h' tk' hK R' g' fl => x c σ' ρ' e h' tk' hK R' g' fl.any

/-- one evaluation behind another -/
theorem SE.andThen {t : Sem Value} {f : V → Store → Prop} {A : Around} {s : Shared} {ρ : Nat → Addr} {Q E : Value → Shared → Prop} (x : SE X k env sc t m σ (thenE K f))
    (ar : Ar X k A env s.heap) (R : Rep X ρ σ s.heap) (F : Frm X env sc m σ.length ρ s.heap) (er : ErE X env.frame σ ρ s K E)
    (h : ∀ v σ₁ ρ₁ a h₁ tk, f v σ₁ → Rep X ρ₁ σ₁ h₁ → Go Nowhere σ ρ s.heap σ₁ ρ₁ h₁ → Has X σ₁.length ρ₁ h₁ v a → Ar X k A env h₁ → Frm X env sc m σ₁.length ρ₁ h₁ → Q a { s with heap := h₁, toks := tk }) :
    wpAny (model X.prog X.w) A t Q E s :=
  x A s ρ Q E ar R F (fun v σ₁ ρ₁ a h₁ tk hf R₁ g hv => h v σ₁ ρ₁ a h₁ tk hf R₁ g hv (ar.go g) (F.go R g)) er
end
end Mine

set_option Elab.async false
set_option autoImplicit false
set_option linter.unusedVariables false
namespace Mine
open PySem PySem.Spec PySem.Calls PyProof.Rows

noncomputable abbrev Contract := List V → Store → (OutE → Prop) → Prop

/-- what is known of the global names: contracts of functions and of methods, constants, names that stand, own exception classes with their own kin -/
structure Sig where
  fn : Str → Option Contract
  meth : String → Str → Option Contract
  const : Str → Option PyData
  knows : Str → Bool
  kin : Str → Option (List Str)

noncomputable def itemsAt (σ : Store) (i : Nat) : Option (List V) := (σ[i]?).map Cell.items

/-- the data of a value, through the store -/
noncomputable def dataOf (σ : Store) : Nat → V → Option PyData
  | _, .d x => some x
  | n + 1, .ref i => (itemsAt σ i).bind fun xs => (xs.mapM (dataOf σ n)).map .list
  | _, _ => none

noncomputable def truthW : V → Option Bool
  | .d (.bool b) => some b
  | _ => none

noncomputable def binW (op : Operator) (a b : V) (σ : Store) (K : OutE → Prop) : Prop :=
  match op, a, b with
  | .Add, .d (.int i), .d (.int j) => K (.val (.d (.int (i + j))) σ)
  | .Sub, .d (.int i), .d (.int j) => K (.val (.d (.int (i - j))) σ)
  | .Mult, .d (.int i), .d (.int j) => IntMulOk i j ∧ K (.val (.d (.int (i * j))) σ)
  | .FloorDiv, .d (.int i), .d (.int j) => (0 < j ∧ j < 1073741824) ∧ K (.val (.d (.int (i.fdiv j))) σ)
  | .Mod, .d (.int i), .d (.int j) => j ≠ 0 ∧ K (.val (.d (.int (i.fmod j))) σ)
  | .Add, .d (.str x), .d (.str y) => x.length + y.length ≤ sizeLine ∧ K (.val (.d (.str (x ++ y))) σ)
  | .Add, .ref i, .ref j => ∃ xs ys, itemsAt σ i = some xs ∧ itemsAt σ j = some ys ∧ xs.length + ys.length ≤ 1000000 ∧ K (.val (.ref σ.length) (σ ++ [.lst (xs ++ ys)]))
  | _, _, _ => False

noncomputable def cmpW (op : CmpOp) (a b : V) (σ : Store) (K : Bool → Prop) : Prop :=
  match op, a, b with
  | .Lt, .d (.int i), .d (.int j) => K (decide (i < j))
  | .LtE, .d (.int i), .d (.int j) => K (decide (i ≤ j))
  | .Gt, .d (.int i), .d (.int j) => K (decide (j < i))
  | .GtE, .d (.int i), .d (.int j) => K (decide (j ≤ i))
  | .Eq, a, b => ∃ x y, dataOf σ 3 a = some x ∧ dataOf σ 3 b = some y ∧ SeqAt.shaped x = true ∧ SeqAt.shaped y = true ∧ K (PyData.eqv x y)
  | .NotEq, a, b => ∃ x y, dataOf σ 3 a = some x ∧ dataOf σ 3 b = some y ∧ SeqAt.shaped x = true ∧ SeqAt.shaped y = true ∧ K (!PyData.eqv x y)
  | _, _, _ => False

noncomputable def unW (op : UnaryOp) (a : V) (σ : Store) (K : OutE → Prop) : Prop :=
  match op, a with
  | .USub, .d (.int i) => K (.val (.d (.int (-i))) σ)
  | .Not, a => ∃ b, truthW a = some b ∧ K (.val (.d (.bool (!b))) σ)
  | _, _ => False

/-- an item at a written or reckoned place in bounds -/
noncomputable def itemW (a i : V) (σ : Store) (K : OutE → Prop) : Prop :=
  match a, i with
  | .ref l, .d (.int k) => ∃ xs v, itemsAt σ l = some xs ∧ (0 ≤ k ∧ k < 2 ^ 63) ∧ xs[k.toNat]? = some v ∧ K (.val v σ)
  | .d (.tuple xs), .d (.int k) => ∃ x, (0 ≤ k ∧ k < 2 ^ 63) ∧ xs[k.toNat]? = some x ∧ K (.val (.d x) σ)
  | _, _ => False

/-- a slice, as the model cuts -/
noncomputable def sliceV {α : Type} (xs : List α) (lo hi : Option Int) : List α := (xs.drop (lo.elim 0 (clipAt xs.length))).take (hi.elim xs.length (clipAt xs.length) - lo.elim 0 (clipAt xs.length))

noncomputable def sliceW (a : V) (lo hi : Option Int) (σ : Store) (K : OutE → Prop) : Prop :=
  match a with
  | .ref l => ∃ xs, itemsAt σ l = some xs ∧ xs.length ≤ 1000000 ∧ K (.val (.ref σ.length) (σ ++ [.lst (sliceV xs lo hi)]))
  | _ => False

/-- a store at a place in bounds -/
noncomputable def setW (a i v : V) (σ : Store) (f : Store → Prop) : Prop :=
  match a, i with
  | .ref l, .d (.int k) => ∃ xs, σ[l]? = some (.lst xs) ∧ (0 ≤ k ∧ k < 2 ^ 63) ∧ k < xs.length ∧ f (σ.set l (.lst (xs.set k.toNat v)))
  | _, _ => False

/-- the type that a method is sought at -/
noncomputable def methTy (σ : Store) : V → Option String
  | .ref i => (itemsAt σ i).map fun _ => "list"
  | .d (.str _) => some "str"
  | _ => none

noncomputable def nameW (Γ : Sig) (sc : Kinds) (x : Str) (m : Loc) (σ : Store) (K : OutE → Prop) : Prop :=
  match sc x with
  | some .local | some .cell | some .free => ∃ v, m x = some v ∧ K (.val v σ)
  | some .globalImplicit => (match Γ.const x with
      | some d => K (.val (.d d) σ)
      | none => Γ.knows x = true ∧ K (.val (.glob x) σ))
  | _ => False

noncomputable def constW (c : Const) (σ : Store) (K : OutE → Prop) : Prop :=
  match c with
  | .none => K (.val (.d .none) σ)
  | .bool b => K (.val (.d (.bool b)) σ)
  | .int i => K (.val (.d (.int i)) σ)
  | .str x => K (.val (.d (.str x)) σ)
  | _ => False

/-- the k-th item of what a loop goes over: none where it is no such thing -/
noncomputable def srcNext (σ : Store) (src : V) (k : Nat) : Option (Option V) :=
  match src with
  | .ref l => (itemsAt σ l).map fun xs => xs[k]?
  | .d (.tuple xs) => some (xs[k]?.map V.d)
  | .rng lo hi => some (if lo + k < hi then some (.d (.int (lo + k))) else none)
  | _ => none

noncomputable def upd (m : Loc) (x : Str) (v : V) : Loc := fun y => if y = x then some v else m y

/-- the frame's names as a comprehension sees them -/
noncomputable def compLoc (names : List (Str × NameKind)) (m : Loc) : Loc := fun y => match names.lookup y with
  | some .free => m y
  | _ => none

noncomputable def kindsOf (names : List (Str × NameKind)) : Kinds := fun y => names.lookup y

noncomputable abbrev Ev := Expr → Loc → Store → (OutE → Prop) → Prop
noncomputable abbrev Tv := Expr → Loc → Store → (OutE → Prop) → (Bool → Store → Prop) → Prop

noncomputable def noStar : Expr → Bool
  | .Starred _ _ => false
  | _ => true

noncomputable def noSet : Expr → Bool
  | .Set _ _ _ => false
  | _ => true

/-- a comprehension's table of names -/
noncomputable def compOkB (sc : Kinds) (scope : Scope) (x : Str) : Bool :=
  scope.kind == .function && scope.names.lookup x == some .local &&
    scope.names.all (fun y => y.2 != .cell && (y.2 != .local || scope.names.lookup y.1 == some .local) && (y.2 != .free || sc y.1 == some .cell || sc y.1 == some .free)) &&
    (scope.names.lookup ("__debug__" : Str)).isNone && (scope.names.lookup ("__classdict__" : Str)).isNone

noncomputable def wpEs (ev : Ev) : List Expr → Loc → Store → (OutE → Prop) → (List V → Store → Prop) → Prop
  | [], m, σ, K, f => f [] σ
  | e :: r, m, σ, K, f => ev e m σ (thenE K fun v σ => wpEs ev r m σ K fun vs σ => f (v :: vs) σ)

/-- a part of a slice -/
noncomputable def wpO (ev : Ev) : Option Expr → Loc → Store → (OutE → Prop) → (Option Int → Store → Prop) → Prop
  | none, m, σ, K, f => f none σ
  | some e, m, σ, K, f => ev e m σ (thenE K fun v σ => ∃ i, v = .d (.int i) ∧ f (some i) σ)

noncomputable def noSuper : Expr → Bool
  | .Call (.Name _ _) [] [] _ => false
  | _ => true

noncomputable def wpBools (ev : Ev) (op : BoolOp) : List Expr → Loc → Store → (OutE → Prop) → Prop
  | [], _, _, _ => False
  | [e], m, σ, K => ev e m σ K
  | e :: r, m, σ, K => ev e m σ (thenE K fun v σ => ∃ b, truthW v = some b ∧ (match op, b with
      | .And, false | .Or, true => K (.val v σ)
      | _, _ => wpBools ev op r m σ K))

noncomputable def wpCmps (ev : Ev) : List CmpOp → List Expr → V → Loc → Store → (OutE → Prop) → (Bool → Store → Prop) → Prop
  | [op], [e], a, m, σ, K, f => behindInMarks op e = false ∧ ev e m σ (thenE K fun b σ => cmpW op a b σ fun r => f r σ)
  | op :: op' :: ops, e :: e' :: es, a, m, σ, K, f => ev e m σ (thenE K fun b σ => cmpW op a b σ fun r => if r then wpCmps ev (op' :: ops) (e' :: es) b m σ K f else f false σ)
  | _, _, _, _, _, _, _ => False

noncomputable def wpAll (tv : Tv) (op : BoolOp) : List Expr → Loc → Store → (OutE → Prop) → (Bool → Store → Prop) → Prop
  | [], m, σ, K, f => f (op == .And) σ
  | e :: r, m, σ, K, f => tv e m σ K fun b σ => (match op, b with
      | .And, false => f false σ
      | .Or, true => f true σ
      | _, _ => wpAll tv op r m σ K f)

/-- all tests of a comprehension -/
noncomputable def wpIfs (tv : Tv) : List Expr → Loc → Store → (OutE → Prop) → (Bool → Store → Prop) → Prop
  | [], m, σ, K, f => f true σ
  | [e], m, σ, K, f => tv e m σ K f
  | _, _, _, _, _ => False

noncomputable def noExn (f : V → Store → Prop) : OutE → Prop
  | .val v σ => f v σ
  | .exn _ _ => False

mutual
noncomputable def wpE (Γ : Sig) : Nat → Kinds → Ev
  | 0, _, _, _, _, _ => False
  | n + 1, sc, e, m, σ, K => (match e with
    | .Constant c _ _ => constW c σ K
    | .Name x _ => nameW Γ sc x m σ K
    | .BinOp l op r _ => wpE Γ n sc l m σ (thenE K fun a σ => wpE Γ n sc r m σ (thenE K fun b σ => binW op a b σ K))
    | .UnaryOp op x _ => wpE Γ n sc x m σ (thenE K fun a σ => unW op a σ K)
    | .BoolOp op vs _ => wpBools (wpE Γ n sc) op vs m σ K
    | .Compare l ops rs _ => wpE Γ n sc l m σ (thenE K fun a σ => wpCmps (wpE Γ n sc) ops rs a m σ K fun r σ => K (.val (.d (.bool r)) σ))
    | .List es _ => es.all noStar = true ∧ wpEs (wpE Γ n sc) es m σ K fun vs σ => vs.length ≤ 1000000 ∧ K (.val (.ref σ.length) (σ ++ [.lst vs]))
    | .Tuple es _ _ => es.all noStar = true ∧ wpEs (wpE Γ n sc) es m σ K fun vs σ => ∃ ds, vs = ds.map V.d ∧ ds.length ≤ 1000000 ∧ K (.val (.d (.tuple ds)) σ)
    | .Subscript a i _ => (match i with
      | .Slice lo hi st _ => st = none ∧ wpE Γ n sc a m σ (thenE K fun o σ => wpO (wpE Γ n sc) lo m σ K fun l σ => wpO (wpE Γ n sc) hi m σ K fun u σ => sliceW o l u σ K)
      | _ => wpE Γ n sc a m σ (thenE K fun o σ => wpE Γ n sc i m σ (thenE K fun j σ => itemW o j σ K)))
    | .Call f args kws p => (match f, kws with
      | .Name x _, [] => sc x = some .globalImplicit ∧ Γ.const x = none ∧ ∃ T, Γ.fn x = some T ∧ args.all noStar = true ∧ wpEs (wpE Γ n sc) args m σ K fun vs σ => T vs σ K
      | .Attribute o name apos, [] => (noSuper o = true ∧ (apos.endLine == p.line) = true ∧ args.all noStar = true ∧ args.length < 20) ∧ wpE Γ n sc o m σ (thenE K fun ov σ => ∃ ty T, methTy σ ov = some ty ∧ Γ.meth ty name = some T ∧
          wpEs (wpE Γ n sc) args m σ K fun vs σ => T (ov :: vs) σ K)
      | _, _ => False)
    | .ListComp elt gens scope _ => (match gens with
      | [⟨.Name x _, iter, ifs, a⟩] => a = 0 ∧ noSet iter = true ∧ compOkB sc scope x = true ∧
        wpE Γ n sc iter m σ (thenE K fun src σ => ∃ (N : Nat) (I : Nat → List V → Store → Prop), N ≤ 1000000 ∧ I 0 [] σ ∧
          (∀ k acc σ, k < N → I k acc σ → ∃ v, srcNext σ src k = some (some v) ∧ acc.length ≤ k ∧
            wpIfs (wpT Γ n (kindsOf scope.names)) ifs (upd (compLoc scope.names m) x v) σ (fun _ => False) fun b σ => if b then wpE Γ n (kindsOf scope.names) elt (upd (compLoc scope.names m) x v) σ (noExn fun w σ => I (k + 1) (acc ++ [w]) σ) else I (k + 1) acc σ) ∧
          (∀ acc σ, I N acc σ → srcNext σ src N = some none ∧ K (.val (.ref σ.length) (σ ++ [.lst acc]))))
      | _ => False)
    | _ => False)
noncomputable def wpT (Γ : Sig) : Nat → Kinds → Tv
  | 0, _, _, _, _, _, _ => False
  | n + 1, sc, e, m, σ, K, f => (match e with
    | .UnaryOp .Not x _ => wpT Γ n sc x m σ K fun b σ => f (!b) σ
    | .BoolOp op vs _ => wpAll (wpT Γ n sc) op vs m σ K f
    | .IfExp _ _ _ _ => False
    | .Compare l ops rs _ => wpE Γ n sc l m σ (thenE K fun a σ => wpCmps (wpE Γ n sc) ops rs a m σ K f)
    | e => wpE Γ n sc e m σ (thenE K fun v σ => ∃ b, truthW v = some b ∧ f b σ))
end

noncomputable def liftS (K : OutS → Prop) (m : Loc) : OutE → Prop
  | .val _ _ => False
  | .exn c σ => K (.exn c m σ)
noncomputable def loopS (K : OutS → Prop) (J : Loc → Store → Prop) : OutS → Prop
  | .next m σ => J m σ
  | .ret v σ => K (.ret v σ)
  | .exn c m σ => K (.exn c m σ)
noncomputable def loopN (K : OutS → Prop) (J : Loc → Store → Prop) : OutS → Prop
  | .next m σ => J m σ
  | .ret v σ => K (.ret v σ)
  | .exn _ _ _ => False

noncomputable abbrev Sv := Stmt → Loc → Store → (OutS → Prop) → Prop
noncomputable def wpSs (sv : Sv) : List Stmt → Loc → Store → (OutS → Prop) → Prop
  | [], m, σ, K => K (.next m σ)
  | s :: r, m, σ, K => sv s m σ (loopS K fun m σ => wpSs sv r m σ K)

noncomputable def noComp : Expr → Bool
  | .ListComp _ _ _ _ => false
  | .SetComp _ _ _ _ => false
  | .DictComp _ _ _ _ _ => false
  | _ => true
noncomputable def noSlice : Expr → Bool
  | .Slice _ _ _ _ => false
  | _ => true

noncomputable def bindable (sc : Kinds) (x : Str) : Prop := sc x = some .local ∨ sc x = some .cell

noncomputable def wpS (Γ : Sig) : Nat → Kinds → Sv
  | 0, _, _, _, _, _ => False
  | n + 1, sc, s, m, σ, K => (match s with
    | .Pass _ => K (.next m σ)
    | .Return v _ => (match v with
      | some e => wpE Γ n sc e m σ (thenE (liftS K m) fun v σ => K (.ret v σ))
      | none => K (.ret (.d .none) σ))
    | .Assign ts v _ => (match ts with
      | [.Name x _] => bindable sc x ∧ wpE Γ n sc v m σ (thenE (liftS K m) fun v σ => K (.next (upd m x v) σ))
      | [.Subscript o i _] => noComp v = true ∧ noSlice i = true ∧ wpE Γ n sc v m σ (thenE (liftS K m) fun w σ => wpE Γ n sc o m σ (thenE (liftS K m) fun ov σ => wpE Γ n sc i m σ (thenE (liftS K m) fun iv σ => setW ov iv w σ fun σ => K (.next m σ))))
      | _ => False)
    | .Expr e _ => noComp e = true ∧ wpE Γ n sc e m σ (thenE (liftS K m) fun _ σ => K (.next m σ))
    | .If t b e _ => wpT Γ n sc t m σ (liftS K m) fun c σ => (c = true → wpSs (wpS Γ n sc) b m σ K) ∧ (c = false → wpSs (wpS Γ n sc) e m σ K)
    | .For t it body orelse _ => (match t, orelse with
      | .Name x _, [] => bindable sc x ∧ noSet it = true ∧ wpE Γ n sc it m σ (thenE (liftS K m) fun src σ => ∃ (N : Nat) (I : Nat → Loc → Store → Prop), I 0 m σ ∧
          (∀ k m σ, k < N → I k m σ → ∃ v, srcNext σ src k = some (some v) ∧ wpSs (wpS Γ n sc) body (upd m x v) σ (loopN K (I (k + 1)))) ∧
          (∀ m σ, I N m σ → srcNext σ src N = some none ∧ K (.next m σ)))
      | _, _ => False)
    | .While t body orelse _ => (match orelse with
      | [] => ∃ (I : Nat → Loc → Store → Prop), (∃ N, I N m σ) ∧ ∀ N m σ, I N m σ →
          wpT Γ n sc t m σ (fun _ => False) fun c σ => (c = true → wpSs (wpS Γ n sc) body m σ (loopN K fun m σ => ∃ N', N' < N ∧ I N' m σ)) ∧ (c = false → K (.next m σ))
      | _ => False)
    | _ => False)

end Mine

set_option Elab.async false
set_option autoImplicit false
set_option linter.unusedVariables false
namespace Mine
open PySem PySem.Spec PySem.Calls PyProof.Rows

section
variable {X : Cx} {n : Nat} {ρ : Nat → Addr} {h : Heap} {v : Value}
theorem Has.int_inv {i : Int} (x : Has X n ρ h (.d (.int i)) v) : ∃ t, v = .int i t := by
  cases x with | d r => cases r; exact ⟨_, rfl⟩
theorem Has.str_inv {i : Str} (x : Has X n ρ h (.d (.str i)) v) : ∃ t, v = .str i t := by
  cases x with | d r => cases r; exact ⟨_, rfl⟩
theorem Has.bool_inv {i : Bool} (x : Has X n ρ h (.d (.bool i)) v) : v = .bool i := by
  cases x with | d r => cases r; rfl
theorem Has.none_inv (x : Has X n ρ h (.d .none) v) : v = .none := by
  cases x with | d r => cases r; rfl
theorem Has.ref_inv {i : Nat} (x : Has X n ρ h (.ref i) v) : i < n ∧ v = .ref (ρ i) := by
  cases x with | ref hi => exact ⟨hi, rfl⟩
theorem Has.d_inv {x : PyData} (y : Has X n ρ h (.d x) v) : Reads h v x [] := by
  cases y with | d r => exact r
theorem Has.glob_inv {x : Str} (y : Has X n ρ h (.glob x) v) : X.val x = some v := by
  cases y with | glob r => exact r
theorem Has.ofInt (i : Int) (t : Tok) : Has X n ρ h (.d (.int i)) (.int i t) := .d (.int i t)
theorem Has.ofBool (b : Bool) : Has X n ρ h (.d (.bool b)) (.bool b) := .d (.bool b)
theorem Has.ofStr (x : Str) (t : Tok) : Has X n ρ h (.d (.str x)) (.str x t) := .d (.str x t)
theorem Has.ofNone : Has X n ρ h (.d .none) .none := .d .none
end

section
variable {X : Cx} {σ : Store} {ρ : Nat → Addr} {h : Heap}

/-- a new list on the heap and in the store -/
theorem Rep.newList (R : Rep X ρ σ h) {vs : List V} {items : List Value} {n : Nat} (hv : HasAll X σ.length ρ h vs items) :
    let ρ' := fun i => if i = σ.length then h.objs.size else ρ i
    Rep X ρ' (σ ++ [.lst vs]) (h.push { cls := .type "list", data := .seq items.toArray n }) ∧ Go Nowhere σ ρ h (σ ++ [.lst vs]) ρ' (h.push { cls := .type "list", data := .seq items.toArray n }) := by
  intro ρ'
  have hρ : ∀ i, i < σ.length → ρ' i = ρ i := fun i hi => if_neg (Nat.ne_of_lt hi)
  have hk : ∀ b o, h.get? b = some o → (h.push { cls := .type "list", data := .seq items.toArray n }).get? b = some o := fun b o e => Heap.get?_push_of_some _ e
  have g : Go Nowhere σ ρ h (σ ++ [.lst vs]) ρ' (h.push { cls := .type "list", data := .seq items.toArray n }) :=
    ⟨by rw [Heap.size_push]; exact Nat.le_succ _, fun b o e _ _ => ⟨o.slots, hk b o e, fun _ => rfl⟩, fun b o es n e d => ⟨o, es, n, hk b o e, d⟩, by simp, hρ, fun i h1 h2 => by
      simp only [List.length_append, List.length_cons, List.length_nil] at h2
      have : i = σ.length := by omega
      subst this
      show h.objs.size ≤ (if σ.length = σ.length then h.objs.size else _)
      rw [if_pos rfl]; exact Nat.le_refl _⟩
  refine ⟨⟨fun b o e => hk b o (R.base b o e), ?_, ?_, ?_⟩, g⟩
  · intro i c hc
    by_cases hi : i < σ.length
    · rw [List.getElem?_append_left hi] at hc
      obtain ⟨its, ⟨k, hp⟩, ha⟩ := R.cell i c hc
      rw [hρ i hi]
      exact ⟨its, ⟨k, hk _ _ hp⟩, ha.go R g .nowhere⟩
    · have hi' : i = σ.length := by
        have := (List.getElem?_eq_some_iff.mp hc).1
        simp at this; omega
      subst hi'
      simp at hc; subst hc
      show CellAt X _ ρ' _ (if σ.length = σ.length then h.objs.size else _) _
      rw [if_pos rfl]
      exact ⟨items, ⟨n, Heap.get?_push_size _ rfl⟩, hv.go R g .nowhere⟩
  · intro i c hc ho
    by_cases hi : i < σ.length
    · rw [List.getElem?_append_left hi] at hc; rw [hρ i hi]; exact R.own i c hc ho
    · have hi' : i = σ.length := by
        have := (List.getElem?_eq_some_iff.mp hc).1
        simp at this; omega
      subst hi'
      show X.B.get? (if σ.length = σ.length then h.objs.size else _) = none
      rw [if_pos rfl]
      cases e : X.B.get? h.objs.size with
      | none => rfl
      | some o => exact absurd (Heap.lt_size (R.base _ _ e)) (Nat.lt_irrefl _)
  · intro i j hi hj e
    simp only [List.length_append, List.length_cons, List.length_nil] at hi hj
    have lt : ∀ i, i < σ.length → ρ i < h.objs.size := fun i hi => by
      obtain ⟨_, ⟨_, hp⟩, _⟩ := R.cell i _ (List.getElem?_eq_getElem hi)
      exact Heap.lt_size hp
    by_cases h1 : i = σ.length <;> by_cases h2 : j = σ.length
    · omega
    · have e' : h.objs.size = ρ j := by simpa [ρ', h1, h2] using e
      have hh := lt j (by omega)
      rw [← e'] at hh; exact absurd hh (Nat.lt_irrefl _)
    · have e' : ρ i = h.objs.size := by simpa [ρ', h1, h2] using e
      have hh := lt i (by omega)
      rw [e'] at hh; exact absurd hh (Nat.lt_irrefl _)
    · exact R.inj i j (by omega) (by omega) (by simpa [ρ', h1, h2] using e)

theorem Rep.grow1 (R : Rep X ρ σ h) (o : Obj) : Rep X ρ σ (h.push o) ∧ Go Nowhere σ ρ h σ ρ (h.push o) := by
  have hk : ∀ b o', h.get? b = some o' → (h.push o).get? b = some o' := fun b o' e => Heap.get?_push_of_some _ e
  refine ⟨⟨fun b o' e => hk _ _ (R.base b o' e), fun i c hc => ?_, R.own, R.inj⟩, ⟨by rw [Heap.size_push]; exact Nat.le_succ _, fun b o' e _ _ => ⟨o'.slots, hk b o' e, fun _ => rfl⟩, fun b o' es n e d => ⟨o', es, n, hk _ _ e, d⟩, Nat.le_refl _, fun _ _ => rfl, fun i h1 h2 => absurd h2 (Nat.not_lt.mpr h1)⟩⟩
  obtain ⟨its, ⟨n, hp⟩, ha⟩ := R.cell i c hc
  exact ⟨its, ⟨n, hk _ _ hp⟩, ha.mono (Nat.le_refl _) (fun _ _ => rfl) fun b o' e _ => hk b o' e⟩

theorem Rep.list {i : Nat} {xs : List V} (R : Rep X ρ σ h) (e : itemsAt σ i = some xs) : i < σ.length ∧ ∃ items : List Value, (∃ n, h.get? (ρ i) = some { cls := .type "list", data := .seq items.toArray n }) ∧ HasAll X σ.length ρ h xs items := by
  unfold itemsAt at e
  obtain ⟨c, hc, rfl⟩ := Option.map_eq_some_iff.mp e
  exact ⟨(List.getElem?_eq_some_iff.mp hc).1, R.cell i c hc⟩
end

section
variable {X : Cx} {σ : Store} {ρ : Nat → Addr} {h h' : Heap}
/-- a list of the store changed -/
theorem Rep.setCell (R : Rep X ρ σ h) {l : Nat} {xs ys : List V} {items : List Value} {n : Nat} (hl : σ[l]? = some (.lst xs)) (hsb : Heap.SameBut (ρ l) h h') (hp : h'.get? (ρ l) = some { cls := .type "list", data := .seq items.toArray n })
    (hv : HasAll X σ.length ρ h ys items) : Rep X ρ (σ.set l (.lst ys)) h' ∧ Go Nowhere σ ρ h (σ.set l (.lst ys)) ρ h' := by
  have hlt := (List.getElem?_eq_some_iff.mp hl).1
  have hnS : ∀ b o, h.get? b = some o → Still o → h'.get? b = some o := fun b o e hs => by
    refine (hsb.2 b fun q => ?_).trans e
    subst q
    obtain ⟨its, ⟨k, hp0⟩, _⟩ := R.cell l _ hl
    rw [hp0] at e; cases e
    exact hs.cls rfl
  have g : Go Nowhere σ ρ h (σ.set l (.lst ys)) ρ h' := ⟨Nat.le_of_eq hsb.1.symm, fun b o e _ hb => ⟨o.slots, (hsb.2 b (hb l hlt)).trans e, fun _ => rfl⟩, fun b o es n e d => by
      by_cases hb : b = ρ l
      · subst hb
        obtain ⟨its, ⟨k, hp0⟩, _⟩ := R.cell l _ hl
        rw [hp0] at e; cases e; cases d
      · exact ⟨o, es, n, (hsb.2 b hb).trans e, d⟩, by simp, fun _ _ => rfl, fun i h1 h2 => by simp at h2; omega⟩
  refine ⟨⟨fun b o e => ?_, fun i c hc => ?_, fun i c hc ho => ?_, fun i j hi hj q => R.inj i j (by simpa using hi) (by simpa using hj) q⟩, g⟩
  · refine (hsb.2 b fun q => ?_).trans (R.base b o e)
    subst q
    rw [R.own l _ hl rfl] at e; cases e
  · rw [List.length_set]
    by_cases hi : l = i
    · subst hi
      rw [List.getElem?_set_self hlt] at hc; cases hc
      exact ⟨items, ⟨n, hp⟩, hv.mono (Nat.le_refl _) (fun _ _ => rfl) hnS⟩
    · rw [List.getElem?_set_ne hi] at hc
      obtain ⟨its, ⟨k, hp0⟩, ha⟩ := R.cell i c hc
      have hne : ρ i ≠ ρ l := fun q => hi (R.inj i l (List.getElem?_eq_some_iff.mp hc).1 hlt q).symm
      exact ⟨its, ⟨k, (hsb.2 _ hne).trans hp0⟩, ha.mono (Nat.le_refl _) (fun _ _ => rfl) hnS⟩
  · by_cases hi : l = i
    · subst hi; exact R.own l _ hl rfl
    · rw [List.getElem?_set_ne hi] at hc; exact R.own i c hc ho

theorem HasAll.set {n : Nat} {vs : List V} {as : List Value} (x : HasAll X n ρ h vs as) {v : V} {a : Value} (hv : Has X n ρ h v a) (k : Nat) : HasAll X n ρ h (vs.set k v) (as.set k a) := by
  induction x generalizing k with
  | nil => exact .nil
  | cons h1 h2 ih =>
    cases k with
    | zero => exact .cons hv h2
    | succ k => exact .cons h1 (ih k)

theorem HasAll.drop {n : Nat} {vs : List V} {as : List Value} (x : HasAll X n ρ h vs as) (k : Nat) : HasAll X n ρ h (vs.drop k) (as.drop k) := by
  induction x generalizing k with
  | nil => simp; exact .nil
  | cons h1 h2 ih =>
    cases k with
    | zero => exact .cons h1 h2
    | succ k => simpa using ih k
theorem HasAll.take {n : Nat} {vs : List V} {as : List Value} (x : HasAll X n ρ h vs as) (k : Nat) : HasAll X n ρ h (vs.take k) (as.take k) := by
  induction x generalizing k with
  | nil => simp; exact .nil
  | cons h1 h2 ih =>
    cases k with
    | zero => exact .nil
    | succ k => exact .cons h1 (ih k)
theorem HasAll.slice {n : Nat} {vs : List V} {as : List Value} (x : HasAll X n ρ h vs as) (lo hi : Option Int) : HasAll X n ρ h (sliceV vs lo hi) (sliceV as lo hi) := by
  unfold sliceV
  rw [x.length]
  exact (x.drop _).take _
end

section
variable {X : Cx} {k : Nat} {A : Around} {env : Env} {σ : Store} {ρ : Nat → Addr} {s : Shared} {K : OutE → Prop} {Q E : Value → Shared → Prop}

theorem OkE.same (ok : OkE X σ ρ s K Q) (R : Rep X ρ σ s.heap) {v : V} {a : Value} (hK : K (.val v σ)) (hv : Has X σ.length ρ s.heap v a) (tk : Nat) : Q a { s with toks := tk } :=
  ok v σ ρ a s.heap tk hK R (.refl ..) hv

theorem bin_sound {op : Operator} {a b : V} {va vb : Value} (hb : binW op a b σ K) (R : Rep X ρ σ s.heap) (ha : Has X σ.length ρ s.heap a va) (hb' : Has X σ.length ρ s.heap b vb)
    (ok : OkE X σ ρ s K Q) : wpAny (model X.prog X.w) A (binaryOp op va vb) Q E s := by
  unfold binW at hb
  split at hb
  · obtain ⟨t, rfl⟩ := ha.int_inv; obtain ⟨u, rfl⟩ := hb'.int_inv
    exact PyProof.Rows.add_int (ok.same R hb (.ofInt ..) _)
  · obtain ⟨t, rfl⟩ := ha.int_inv; obtain ⟨u, rfl⟩ := hb'.int_inv
    exact PyProof.Rows.sub_int (ok.same R hb (.ofInt ..) _)
  · obtain ⟨t, rfl⟩ := ha.int_inv; obtain ⟨u, rfl⟩ := hb'.int_inv
    exact PyProof.Rows.mul_int (ok.same R hb.2 (.ofInt ..) _) hb.1
  · obtain ⟨t, rfl⟩ := ha.int_inv; obtain ⟨u, rfl⟩ := hb'.int_inv
    exact PyProof.Rows.floordiv_int (by have := hb.1.1; omega) (ok.same R hb.2 (.ofInt ..) _) (.inl (PyProof.noPylong_small (by have := hb.1; omega)))
  · obtain ⟨t, rfl⟩ := ha.int_inv; obtain ⟨u, rfl⟩ := hb'.int_inv
    exact PyProof.Rows.mod_int' hb.1 (ok.same R hb.2 (.ofInt ..) _)
  · obtain ⟨t, rfl⟩ := ha.str_inv; obtain ⟨u, rfl⟩ := hb'.str_inv
    exact PyProof.Rows.add_str (fun t' tk => ok.same R hb.2 (.ofStr ..) _) hb.1
  · obtain ⟨xs, ys, h1, h2, h3, h4⟩ := hb
    obtain ⟨hi, rfl⟩ := ha.ref_inv; obtain ⟨hj, rfl⟩ := hb'.ref_inv
    obtain ⟨_, its1, ⟨n1, e1⟩, a1⟩ := R.list h1
    obtain ⟨_, its2, ⟨n2, e2⟩, a2⟩ := R.list h2
    have := R.newList (n := 0) (a1.append a2)
    have hz : its1.length + its2.length ≤ sizeLine := by rw [← a1.length, ← a2.length, sizeLine_eq]; omega
    refine PySem.P.add_list e1 e2 ?_ (by simpa using hz)
    have hh := ok _ _ _ (.ref s.heap.objs.size) _ s.toks h4 this.1 this.2 (by
      have := Has.ref (X := X) (n := (σ ++ [Cell.lst (xs ++ ys)]).length) (ρ := fun i => if i = σ.length then s.heap.objs.size else ρ i) (h := s.heap.push { cls := .type "list", data := .seq (its1 ++ its2).toArray 0 }) (i := σ.length) (by simp)
      simpa using this)
    simpa using hh
  · exact hb.elim

theorem un_sound {op : UnaryOp} {a : V} {va : Value} (hb : unW op a σ K) (R : Rep X ρ σ s.heap) (ha : Has X σ.length ρ s.heap a va)
    (ok : OkE X σ ρ s K Q) : wpAny (model X.prog X.w) A (unaryOp op va) Q E s := by
  unfold unW at hb
  split at hb
  · obtain ⟨t, rfl⟩ := ha.int_inv
    exact PyProof.Rows.neg_int (ok.same R hb (.ofInt ..) _)
  · obtain ⟨b, h1, h2⟩ := hb
    unfold truthW at h1
    split at h1
    · cases h1
      cases ha.bool_inv
      exact not_of (wpAny_truthy_bool (ok.same R h2 (.ofBool _) s.toks))
    · cases h1
  · exact hb.elim

theorem truth_sound {a : V} {va : Value} {b : Bool} {Q : Bool → Shared → Prop} (hb : truthW a = some b) (ha : Has X σ.length ρ s.heap a va) (h : Q b s) : wpAny (model X.prog X.w) A (truthy va) Q E s := by
  unfold truthW at hb
  split at hb
  · cases hb; cases ha.bool_inv; exact wpAny_truthy_bool h
  · cases hb

mutual
theorem readsAll_of {X : Cx} {σ : Store} {ρ : Nat → Addr} {h : Heap} (R : Rep X ρ σ h) (n : Nat) : ∀ (vs : List V) (as : List Value) (xs : List PyData), HasAll X σ.length ρ h vs as → vs.mapM (dataOf σ n) = some xs → ∃ bs, ReadsAll h as xs bs := by
  intro vs as xs hv
  induction hv generalizing xs with
  | nil => intro e; simp at e; subst e; exact ⟨_, .nil⟩
  | cons h1 h2 ih =>
    intro e
    simp only [List.mapM_cons, Option.bind_eq_bind, Option.bind_eq_some_iff] at e
    obtain ⟨y, e1, ys, e2, e3⟩ := e
    cases e3
    obtain ⟨bs1, r1⟩ := reads_of R n _ _ _ h1 e1
    obtain ⟨bs2, r2⟩ := ih _ e2
    exact ⟨_, .cons r1 r2⟩
termination_by (n, 1)
theorem reads_of {X : Cx} {σ : Store} {ρ : Nat → Addr} {h : Heap} (R : Rep X ρ σ h) (n : Nat) (v : V) (a : Value) (x : PyData) (hv : Has X σ.length ρ h v a) (e : dataOf σ n v = some x) : ∃ bs, Reads h a x bs := by
  unfold dataOf at e
  split at e
  · cases e; exact ⟨_, hv.d_inv⟩
  · rename_i n i
    obtain ⟨xs, e1, e2⟩ := Option.bind_eq_some_iff.mp e
    obtain ⟨ds, e3, e4⟩ := Option.map_eq_some_iff.mp e2
    subst e4
    obtain ⟨_, rfl⟩ := hv.ref_inv
    obtain ⟨_, its, ⟨k, ho⟩, ha⟩ := R.list e1
    obtain ⟨bs, r⟩ := readsAll_of R n xs its ds ha e3
    exact ⟨_, .list ho rfl rfl (by simpa using r)⟩
  · cases e
termination_by (n, 0)
end

theorem cmp_sound {op : CmpOp} {a b : V} {va vb : Value} {f : Bool → Prop} (hb : cmpW op a b σ f) (ar : Ar X k A env s.heap) (R : Rep X ρ σ s.heap) (ha : Has X σ.length ρ s.heap a va) (hb' : Has X σ.length ρ s.heap b vb)
    (h : ∀ r, f r → Q (.bool r) s) : wpAny (model X.prog X.w) A (compareOp op va vb) Q E s := by
  have hu : A.units + 64 < cLine := by have := ar.units; omega
  unfold cmpW at hb
  split at hb
  · obtain ⟨t, rfl⟩ := ha.int_inv; obtain ⟨u, rfl⟩ := hb'.int_inv
    exact PyProof.Rows.lt_int (h _ hb)
  · obtain ⟨t, rfl⟩ := ha.int_inv; obtain ⟨u, rfl⟩ := hb'.int_inv
    exact PyProof.Rows.le_int (h _ hb)
  · obtain ⟨t, rfl⟩ := ha.int_inv; obtain ⟨u, rfl⟩ := hb'.int_inv
    exact PyProof.Rows.gt_int (h _ hb)
  · obtain ⟨t, rfl⟩ := ha.int_inv; obtain ⟨u, rfl⟩ := hb'.int_inv
    exact PyProof.Rows.ge_int (h _ hb)
  · obtain ⟨x, y, h1, h2, h3, h4, h5⟩ := hb
    obtain ⟨as, ra⟩ := reads_of R _ _ _ _ ha h1
    obtain ⟨bs, rb⟩ := reads_of R _ _ _ _ hb' h2
    exact eq_dataH ra rb h3 h4 hu (h _ h5)
  · obtain ⟨x, y, h1, h2, h3, h4, h5⟩ := hb
    obtain ⟨as, ra⟩ := reads_of R _ _ _ _ ha h1
    obtain ⟨bs, rb⟩ := reads_of R _ _ _ _ hb' h2
    exact ne_dataH ra rb h3 h4 hu (h _ h5)
  · exact hb.elim

theorem slice_sound {value : Expr} {lower upper : Option Expr} {p : Pos} {a : V} {va vl vu : Value} {lo hi : Option Int} (hb : sliceW a lo hi σ K) (R : Rep X ρ σ s.heap) (ha : Has X σ.length ρ s.heap a va) (pl : IsPart vl lo) (pu : IsPart vu hi)
    (ok : OkE X σ ρ s K Q) : wpAny (model X.prog X.w) A (subscriptTail value (.Slice lower upper none p) va (.ref s.heap.objs.size)) Q E { s with heap := s.heap.push { cls := .type "slice", data := .fields #[vl, vu, .none] } } := by
  unfold sliceW at hb
  split at hb
  · obtain ⟨xs, h1, h2, h3⟩ := hb
    obtain ⟨_, rfl⟩ := ha.ref_inv
    obtain ⟨_, its, ⟨n, e⟩, hall⟩ := R.list h1
    have hL : s.heap.IsList (ρ _) its.toArray := ⟨_, e, rfl, n, rfl⟩
    refine tail_any (s := { s with heap := s.heap.push { cls := .type "slice", data := .fields #[vl, vu, .none] } }) (hL.push _).typeIs slot_list_getitem.lookup ?_ rfl
    refine wpAny_getItem_list_slice (hL.push _) (Heap.IsSliceOf.new ..) pl pu .none (by simp) ?_ (by rw [List.size_toArray, sizeLine_eq, ← hall.length]; omega)
    have R1 := R.grow1 { cls := .type "slice", data := .fields #[vl, vu, .none] }
    have hall1 : HasAll X σ.length ρ (s.heap.push { cls := .type "slice", data := .fields #[vl, vu, .none] }) xs its := hall.mono (Nat.le_refl _) (fun _ _ => rfl) fun b o e _ => Heap.get?_push_of_some _ e
    have N := R1.1.newList (n := 0) (hall1.slice lo hi)
    have hh := ok _ _ _ (.ref (s.heap.push { cls := .type "slice", data := .fields #[vl, vu, .none] }).objs.size) _ s.toks h3 N.1 (R1.2.trans N.2) (by
      have := Has.ref (X := X) (n := (σ ++ [Cell.lst (sliceV xs lo hi)]).length) (ρ := fun i => if i = σ.length then (s.heap.push { cls := .type "slice", data := .fields #[vl, vu, .none] }).objs.size else ρ i) (h := (s.heap.push { cls := .type "slice", data := .fields #[vl, vu, .none] }).push { cls := .type "list", data := .seq (sliceV its lo hi).toArray 0 }) (i := σ.length) (by simp)
      simpa using this)
    rw [slicePick_plain]
    have es : ((its.toArray.toList.drop (lo.elim 0 (clipAt its.toArray.size))).take (hi.elim its.toArray.size (clipAt its.toArray.size) - lo.elim 0 (clipAt its.toArray.size))) = sliceV its lo hi := by
      unfold sliceV; simp
    rw [es]
    exact hh
  · exact hb.elim

/-- a list object's item set: the object stays a plain list -/
theorem setItem_plain {prog : Program} {w : World} {E : Value → Shared → Prop} {l : Addr} {items : Array Value} {n : Nat} {j : Int} {t : Tok} {v : Value} {Q : Unit → Shared → Prop} (hl : s.heap.get? l = some { cls := .type "list", data := .seq items n })
    (h0 : 0 ≤ j) (hfit : j < 2 ^ 63) (hn : j < items.size)
    (hQ : ∀ h' n', h'.get? l = some { cls := .type "list", data := .seq (items.setIfInBounds j.toNat v) n' } → Heap.SameBut l s.heap h' → Q () { s with heap := h' }) :
    wpAny (model prog w) A (setItem (.ref l) (.int j t) v) Q E s := by
  have hL : s.heap.IsList l items := ⟨_, hl, rfl, n, rfl⟩
  unfold setItem
  try with_reducible refine wpAny_holding ?_
  first | refine wpAny_bind (wpAny_pure ?_) | skip
  refine wpAny_bind (wpAny_sequenceKey hL.typeIs (by decide) ?_)
  refine wpAny_bind (wpAny_callSpecial?_slot (name := Str.ofString "__setitem__") hL.typeIs slot_list_setitem
    (wpAny_call_entry slot_list_setitem hL.typeIs entry_list_setitem ?_ (args_list_setitem _ _ _)))
  show wpAny _ _ (Builtin.List.listSubscript? (.int j t) >>= _) _ _ s
  refine wpAny_bind (wpAny_listSubscript_int (fitsIndex_of h0 hfit) ?_)
  clear hfit
  obtain ⟨i, rfl⟩ := Int.eq_ofNat_of_zero_le h0
  have hj : i < items.size := by omega
  have hx' : items[i]? = some items[i] := Array.getElem?_eq_getElem hj
  show wpAny _ _ ((seqItemAt l i >>= fun r => pure (r.map (i, ·))) >>= _) _ _ s
  refine wpAny_bind (wpAny_bind (wpAny_seqItemAt hl rfl (wpAny_pure ?_)))
  rw [hx']
  show wpAny _ _ (setSeqItemAt l i v >>= _) _ _ s
  have hfin : (s.heap.update l (Obj.mapSeq (·.setIfInBounds i v))).get? l = some { cls := .type "list", data := .seq (items.setIfInBounds i v) _ } := Heap.get?_update_self _ hl rfl
  refine wpAny_bind (wpAny_setSeqItemAt hl rfl ?_)
  first
    | exact wpAny_bind (wpAny_pure (wpAny_pure ⟨.none, rfl, wpAny_pure (hQ _ _ hfin (Heap.SameBut.update ..))⟩))
    | exact wpAny_pure ⟨.none, rfl, wpAny_pure (hQ _ _ hfin (Heap.SameBut.update ..))⟩

theorem set_sound {a i v : V} {va vi vv : Value} {f : Store → Prop} {Q : Unit → Shared → Prop} (hb : setW a i v σ f) (R : Rep X ρ σ s.heap) (ha : Has X σ.length ρ s.heap a va) (hi : Has X σ.length ρ s.heap i vi) (hv : Has X σ.length ρ s.heap v vv)
    (h : ∀ σ' h', f σ' → Rep X ρ σ' h' → Go Nowhere σ ρ s.heap σ' ρ h' → Q () { s with heap := h' }) : wpAny (model X.prog X.w) A (setItem va vi vv) Q E s := by
  unfold setW at hb
  split at hb
  · rename_i l j
    obtain ⟨xs, h1, h2, h3, h4⟩ := hb
    obtain ⟨t, rfl⟩ := hi.int_inv
    obtain ⟨_, rfl⟩ := ha.ref_inv
    obtain ⟨its, ⟨n, e⟩, hall⟩ := R.cell _ _ h1
    have hlen : xs.length = its.length := hall.length
    refine setItem_plain e h2.1 h2.2 (by rw [List.size_toArray, ← hlen]; exact h3) fun h' n' hp hsb => ?_
    have hp' : h'.get? (ρ l) = some { cls := .type "list", data := .seq (its.set j.toNat vv).toArray n' } := by simpa using hp
    obtain ⟨R', g'⟩ := R.setCell h1 hsb hp' (hall.set hv _)
    exact h _ h' h4 R' g'
  · exact hb.elim

theorem subscripted_plain {slice : Expr} (hs : ∀ a b c p, slice ≠ .Slice a b c p) (o i : Value) : subscripted slice false o i = operate [o, i] (getItem o i) := by
  unfold subscripted
  split
  · exact absurd rfl (hs _ _ _ _)
  · rename_i h; cases h
  · rfl

theorem readsAll_get {h : Heap} : ∀ {vs : List Value} {xs : List PyData} {as : List Addr}, ReadsAll h vs xs as → as = [] → ∀ {j : Nat} {x : PyData}, xs[j]? = some x → ∃ v, vs[j]? = some v ∧ Reads h v x []
  | _, _, _, .nil, _, j, x, e => by simp at e
  | _, _, _, .cons h1 h2, ea, j, x, e => by
    obtain ⟨e1, e2⟩ := List.append_eq_nil_iff.mp ea
    cases j with
    | zero => simp at e; subst e; subst e1; exact ⟨_, rfl, h1⟩
    | succ j => simpa using readsAll_get h2 e2 (by simpa using e)

theorem item_sound {value slice : Expr} {a i : V} {va vi : Value} (hs : ∀ a b c p, slice ≠ .Slice a b c p) (hb : itemW a i σ K) (R : Rep X ρ σ s.heap) (ha : Has X σ.length ρ s.heap a va) (hi : Has X σ.length ρ s.heap i vi)
    (ok : OkE X σ ρ s K Q) : wpAny (model X.prog X.w) A (subscriptTail value slice va vi) Q E s := by
  unfold itemW at hb
  split at hb
  · obtain ⟨xs, v, h1, h2, h3, h4⟩ := hb
    obtain ⟨t, rfl⟩ := hi.int_inv
    obtain ⟨_, rfl⟩ := ha.ref_inv
    obtain ⟨_, its, ⟨n, e⟩, hall⟩ := R.list h1
    obtain ⟨w, hw, hv⟩ := hall.get h3
    have hL : s.heap.IsList (ρ _) its.toArray := ⟨_, e, rfl, n, rfl⟩
    exact tail_any hL.typeIs slot_list_getitem.lookup (wpAny_getItem_list hL h2.1 h2.2 (by simpa using hw) (ok.same R h4 hv s.toks)) (subscripted_plain hs _ _)
  · obtain ⟨x, h2, h3, h4⟩ := hb
    rename_i xs k
    obtain ⟨t, rfl⟩ := hi.int_inv
    have r := ha.d_inv
    cases r with
    | @tuple a o vs n xs as e1 e2 e3 e4 =>
      obtain ⟨w, hw, hr⟩ := readsAll_get e4 rfl h3
      have hT : IsTup s.heap _ _ := ⟨_, e1, e2, _, e3⟩
      have hj : seqIndex? k vs.size = some k.toNat := by
        unfold seqIndex?
        have hlt := (List.getElem?_eq_some_iff.mp hw).1
        simp only [Array.length_toList] at hlt
        have : ¬ k < 0 := by omega
        simp only [this, if_false]
        rw [if_pos]
        simp only [Bool.and_eq_true, decide_eq_true_eq]
        omega
      exact tail_any hT.typeIs slot_tuple_getitem.lookup (PyProof.Rows.getItem_tuple hT (by omega) h2.2 hj (by simpa using hw) (ok.same R h4 (.d hr) s.toks)) (subscripted_plain hs _ _)
  · exact hb.elim
end
end Mine

set_option Elab.async false
set_option autoImplicit false
set_option linter.unusedVariables false
namespace Mine
open PySem PySem.Spec PySem.Calls PyProof.Rows

/-- a callee that the caller's frame keeps no more of -/
noncomputable def Kp (X : Cx) (f : Value) : Prop := ∃ k, (k = Keeper.frame ∨ k = Keeper.machine ∨ k = Keeper.boundFrame) ∧
  ∀ (A : Around) (Q : Keeper → Shared → Prop) (E : Value → Shared → Prop) (s : Shared), (∀ b o, X.B.get? b = some o → s.heap.get? b = some o) → Q k s → wpAny (model X.prog X.w) A (keeperOf f) Q E s

noncomputable def ValidF (X : Cx) (k : Nat) (x : Str) (T : Contract) : Prop :=
  ∃ f, X.val x = some f ∧ Kp X f ∧ ∀ vs σ K, T vs σ K → ∀ (A : Around) (s : Shared) (ρ : Nat → Addr) (vals : List Value) (Q E : Value → Shared → Prop),
    ArC X k A s.heap → Rep X ρ σ s.heap → HasAll X σ.length ρ s.heap vs vals → OkE X σ ρ s K Q → ErE X none σ ρ s K E → wpAny (model X.prog X.w) A (call f vals) Q E s

noncomputable def ValidM (X : Cx) (k : Nat) (ty : String) (name : Str) (T : Contract) : Prop :=
  ∃ id, PlainAttrs ty ∧ PySem.Slot ty name id ∧ typeOf (.builtin id) = pure (.type "method_descriptor") ∧ ∀ vs σ K, T vs σ K → ∀ (A : Around) (s : Shared) (ρ : Nat → Addr) (vals : List Value) (Q E : Value → Shared → Prop),
    ArC X k A s.heap → Rep X ρ σ s.heap → HasAll X σ.length ρ s.heap vs vals → OkE X σ ρ s K Q → ErE X none σ ρ s K E → wpAny (model X.prog X.w) A (call (.builtin id) vals) Q E s

structure SigOk (X : Cx) (k : Nat) (Γ : Sig) : Prop where
  fn : ∀ x T, Γ.fn x = some T → ValidF X k x T
  const : ∀ x d, Γ.const x = some d → ∃ v, X.val x = some v ∧ ∀ h, Reads h v d []
  knows : ∀ x, Γ.knows x = true → ∃ v, X.val x = some v
  meth : ∀ ty name T, Γ.meth ty name = some T → ValidM X k ty name T

theorem Kp.func {X : Cx} {a : Addr} {o : Obj} {fd : FuncData} (ho : X.B.get? a = some o) (hd : o.data = .func fd) : Kp X (.ref a) :=
  ⟨.frame, .inl rfl, fun A Q E s hk hQ => by
    unfold keeperOf
    refine wpAny_bind (wpAny_load (hk _ _ ho) ?_)
    rw [hd]; exact wpAny_pure hQ⟩
theorem Kp.builtin {X : Cx} {id : String} : Kp X (.builtin id) := ⟨.machine, .inr (.inl rfl), fun A Q E s hk hQ => wpAny_pure hQ⟩
theorem Kp.type {X : Cx} {id : String} : Kp X (.type id) := ⟨.machine, .inr (.inl rfl), fun A Q E s hk hQ => wpAny_pure hQ⟩

section
variable {X : Cx} {k : Nat} {Γ : Sig} {env : Env} {sc : Kinds} {m : Loc} {σ : Store} {K : OutE → Prop} {A : Around} {s : Shared} {ρ : Nat → Addr} {Q E : Value → Shared → Prop}

theorem callWith_gen {pos : Pos} {f : Value} {first : List Value} {args : List (Bool × Sem Value)} (hplain : args.any (·.1) = false) (hf : Kp X f)
    (h : wpAny (model X.prog X.w) A (evalArgs f true args []) (fun a s₁ => (∀ b o, X.B.get? b = some o → s₁.heap.get? b = some o) ∧ wpAny (model X.prog X.w) A (call f (first ++ a.pos) a.kw) Q E s₁) E s) :
    wpAny (model X.prog X.w) A (callWith pos f first args []) Q E s := by
  unfold callWith
  refine wpAny_bind (wpAny_holding (wpAny_mono h (fun a s₁ h₁ => wpAny_bind (wpAny_standAt ?_)) fun _ _ x => x))
  obtain ⟨k, hk', L⟩ := hf
  simp only [hplain, List.any_nil, Bool.or_false]
  refine wpAny_bind (L _ _ _ _ h₁.1 ?_)
  have tail : ∀ {t : Sem Value}, wpAny (model X.prog X.w) A t Q E s₁ → wpAny (model X.prog X.w) A (t >>= fun r => holding [r] point >>= fun _ => pure r) Q E s₁ :=
    fun ht => wpAny_bind (wpAny_mono ht (fun r s₂ hr => wpAny_bind (wpAny_holding (wpAny_point (wpAny_pure hr)))) fun _ _ x => x)
  have marked (mk : Value) : wpAny (model X.prog X.w) A (callMarked mk f (first ++ a.pos) a.kw) Q E s₁ := by unfold callMarked; exact Calls.wpAny_keep h₁.2
  rcases hk' with rfl | rfl | rfl <;> dsimp only <;> first | exact tail h₁.2 | (split <;> first | exact tail h₁.2 | exact tail (marked _))

theorem loadGlobal_sound {x : Str} {v : Value} (cx : CxOk X) (R : Rep X ρ σ s.heap) (F : Frm X env sc m σ.length ρ s.heap) (hv : X.val x = some v) (h : Q v s) : wpAny (model X.prog X.w) A (loadGlobal env x) Q E s := by
  unfold loadGlobal
  rw [F.glob, F.bi]
  refine wpAny_bind (wpAny_nsGet (cx.g.keeps R.base) ?_)
  unfold Cx.val at hv
  cases hg : X.mg x with
  | some u => rw [hg] at hv; cases hv; exact wpAny_pure h
  | none =>
    rw [hg] at hv
    refine wpAny_bind (wpAny_nsGet (cx.b.keeps R.base) ?_)
    have hv' : X.mb x = some v := hv
    rw [hv']; exact wpAny_pure h

theorem KindsOk.notDebug (hk : KindsOk sc env) {x : Str} {kd : NameKind} (h : sc x = some kd) : (x == ("__debug__" : Str)) = false := by
  cases hb : x == ("__debug__" : Str) with
  | false => rfl
  | true => rw [beq_iff_eq.mp hb, hk.debug] at h; cases h
theorem KindsOk.notClassdict (hk : KindsOk sc env) {x : Str} {kd : NameKind} (h : sc x = some kd) : (x == ("__classdict__" : Str)) = false := by
  cases hb : x == ("__classdict__" : Str) with
  | false => rfl
  | true => rw [beq_iff_eq.mp hb, hk.classdict] at h; cases h

theorem glob_sound {x : Str} {pos : Pos} {v : Value} (cx : CxOk X) (R : Rep X ρ σ s.heap) (F : Frm X env sc m σ.length ρ s.heap) (hx : sc x = some .globalImplicit) (hv : X.val x = some v) (h : Q v s) :
    wpAny (model X.prog X.w) A (eval (.Name x pos) env) Q E s :=
  Name_function_global F.kind (F.kinds.glob x hx) (loadGlobal_sound cx R F hv h) (F.kinds.notDebug hx)

theorem name_sound {x : Str} {pos : Pos} (cx : CxOk X) (ok : SigOk X k Γ) (R : Rep X ρ σ s.heap) (F : Frm X env sc m σ.length ρ s.heap) (hw : nameW Γ sc x m σ K) (hQ : OkE X σ ρ s K Q) :
    wpAny (model X.prog X.w) A (eval (.Name x pos) env) Q E s := by
  unfold nameW at hw
  have cellCase : ∀ kd, sc x = some kd → (kd = .cell ∨ kd = .free) → (∃ v, m x = some v ∧ K (.val v σ)) → wpAny (model X.prog X.w) A (eval (.Name x pos) env) Q E s := by
    rintro kd hsc hkd ⟨v, hm, hK⟩
    obtain ⟨c, ov, h1, h2, h3⟩ := F.cells x (by rcases hkd with rfl | rfl <;> simp [hsc])
    obtain ⟨a, rfl, hv⟩ := h3 v hm
    refine wpAny_Name ?_ (F.kinds.notDebug hsc)
    have : env.kindOf x = some .cell ∨ env.kindOf x = some .free := by
      rcases hkd with rfl | rfl
      · exact .inl (F.kinds.cell x hsc)
      · exact F.kinds.free x hsc
    rcases this with h | h
    · exact wpAny_loadName_cell F.kind h h1 h2 (hQ.same R hK hv s.toks)
    · exact wpAny_loadName_free F.kind h h1 h2 (hQ.same R hK hv s.toks) (F.kinds.notClassdict hsc)
  split at hw
  · rename_i hsc
    obtain ⟨v, hm, hK⟩ := hw
    obtain ⟨mm, hn, hl⟩ := F.ns
    obtain ⟨a, h1, h2⟩ := hl x v hsc hm
    exact wpAny_Name (wpAny_loadName_local F.kind (F.kinds.loc x hsc) hn h1 (hQ.same R hK h2 s.toks)) (F.kinds.notDebug hsc)
  · rename_i hsc; exact cellCase _ hsc (.inl rfl) hw
  · rename_i hsc; exact cellCase _ hsc (.inr rfl) hw
  · rename_i hsc
    split at hw
    · rename_i d hd
      obtain ⟨v, h1, h2⟩ := ok.const x d hd
      exact glob_sound cx R F hsc h1 (hQ.same R hw (.d (h2 _)) s.toks)
    · obtain ⟨v, h1⟩ := ok.knows x hw.1
      exact glob_sound cx R F hsc h1 (hQ.same R hw.2 (.glob h1) s.toks)
  · exact hw.elim

theorem const_sound {c : Const} {n : Nat} {pos : Pos} (R : Rep X ρ σ s.heap) (hw : constW c σ K) (hQ : OkE X σ ρ s K Q) : wpAny (model X.prog X.w) A (eval (.Constant c n pos) env) Q E s := by
  unfold constW at hw
  split at hw
  · exact wpAny_pure (hQ.same R hw .ofNone s.toks)
  · exact wpAny_pure (hQ.same R hw (.ofBool _) s.toks)
  · exact wpAny_Constant_int (hQ.same R hw (.ofInt ..) _)
  · exact Calls.Constant_str (hQ.same R hw (.ofStr ..) _)
  · exact hw.elim

theorem starEach_plain {e : Expr} {rest : List Expr} (h : noStar e = true) : starEach (e :: rest) env = (false, eval e env) :: starEach rest env := by
  cases e <;> first | rfl | exact absurd h (by simp [noStar])

noncomputable def ST (X : Cx) (k : Nat) (env : Env) (sc : Kinds) (t : Sem Bool) (m : Loc) (σ : Store) (K : OutE → Prop) (f : Bool → Store → Prop) : Prop :=
  ∀ (A : Around) (s : Shared) (ρ : Nat → Addr) (Q : Bool → Shared → Prop) (E : Value → Shared → Prop), Ar X k A env s.heap → Rep X ρ σ s.heap → Frm X env sc m σ.length ρ s.heap →
    (∀ b σ' ρ' h' tk, f b σ' → Rep X ρ' σ' h' → Go Nowhere σ ρ s.heap σ' ρ' h' → Ar X k A env h' → Frm X env sc m σ'.length ρ' h' → Q b { s with heap := h', toks := tk }) → ErE X env.frame σ ρ s K E → wpAny (model X.prog X.w) A t Q E s

/-- the arguments of a call or a display -/
theorem args_sound {ev : Ev} {pos : Pos} (hev : ∀ e m σ K, ev e m σ K → SE X k env sc (eval e env) m σ K) : ∀ (es : List Expr) (σ : Store) (f : List V → Store → Prop) (s : Shared) (ρ : Nat → Addr) (Q : List Value → Shared → Prop),
    es.all noStar = true → wpEs ev es m σ K f → Ar X k A env s.heap → Rep X ρ σ s.heap → Frm X env sc m σ.length ρ s.heap → ErE X env.frame σ ρ s K E →
    (∀ vs σ' ρ' as h' tk, f vs σ' → Rep X ρ' σ' h' → Go Nowhere σ ρ s.heap σ' ρ' h' → HasAll X σ'.length ρ' h' vs as → Ar X k A env h' → Frm X env sc m σ'.length ρ' h' → Q as { s with heap := h', toks := tk }) →
    wpAny (model X.prog X.w) A (spliced (backTo pos (starEach es env))) Q E s
  | [], σ, f, s, ρ, Q, _, hw, ar, R, F, er, h => wpAny_items_nil (h [] σ ρ [] s.heap s.toks hw R (.refl ..) .nil ar F)
  | e :: r, σ, f, s, ρ, Q, hs, hw, ar, R, F, er, h => by
    unfold wpEs at hw
    rw [List.all_cons, Bool.and_eq_true] at hs
    refine wpAny_items_cons ?_ (starEach_plain hs.1)
    refine SE.andThen (hev _ _ _ _ hw) ar R F er fun v σ₁ ρ₁ a h₁ tk hf R₁ g₁ hv ar₁ F₁ => ?_
    refine args_sound hev r σ₁ _ { s with heap := h₁, toks := tk } ρ₁ _ hs.2 hf ar₁ R₁ F₁ (er.after g₁) fun vs σ₂ ρ₂ as h₂ tk₂ hf₂ R₂ g₂ hvs ar₂ F₂ => ?_
    exact h (v :: vs) σ₂ ρ₂ (a :: as) h₂ tk₂ hf₂ R₂ (g₁.trans g₂) (.cons (hv.go R₁ g₂ .nowhere) hvs) ar₂ F₂

theorem args_noStar {pos : Pos} : ∀ (es : List Expr), es.all noStar = true → (backTo pos (starEach es env)).any (·.1) = false
  | [], hw => rfl
  | e :: r, hw => by
    rw [List.all_cons, Bool.and_eq_true] at hw
    rw [starEach_plain hw.1]
    show (false || (backTo pos (starEach r env)).any (·.1)) = false
    rw [Bool.false_or]
    exact args_noStar r hw.2
end
end Mine

set_option Elab.async false
set_option autoImplicit false
set_option linter.unusedVariables false
namespace Mine
open PySem PySem.Spec PySem.Calls PyProof.Rows

section
variable {X : Cx} {k : Nat} {Γ : Sig} {env : Env} {sc : Kinds} {m : Loc} {σ : Store} {K : OutE → Prop} {A : Around} {s : Shared} {ρ : Nat → Addr} {Q E : Value → Shared → Prop}

theorem evalArgs_gen {M : Model} {f : Value} {args : List (Bool × Sem Value)} {Q : Args → Shared → Prop} (hp : args.any (·.1) = false)
    (h : wpAny M A (spliced args) (fun vs s' => Q ⟨vs, []⟩ s') E s) : wpAny M A (evalArgs f true args []) Q E s := by
  cases args with
  | nil =>
    unfold evalArgs
    show wpAny M A (spliced [] >>= _) Q E s
    refine wpAny_bind (wpAny_mono h (fun vs s' h' => ?_) fun _ _ x => x)
    exact wpAny_holding (wpAny_bind (wpAny_pure (wpAny_bind (wpAny_pure (wpAny_pure h')))))
  | cons a r =>
    obtain ⟨b, x⟩ := a
    have hb : b = false := by
      have : (b || r.any (·.1)) = false := hp
      exact (Bool.or_eq_false_iff.mp this).1
    subst hb
    exact evalArgs_plain h

theorem release_any {M : Model} {vs keep : List Value} {Q : Unit → Shared → Prop} (h : Q () s) : wpAny M A (release vs keep) Q E s := fun Γ p _ => by rw [Sem.wp_release]; exact h

theorem bools_sound {ev : Ev} {op : BoolOp} {pos : Pos} (hev : ∀ e m σ K, ev e m σ K → SE X k env sc (eval e env) m σ K) : ∀ (es : List Expr) (σ : Store) (s : Shared) (ρ : Nat → Addr),
    wpBools ev op es m σ K → Ar X k A env s.heap → Rep X ρ σ s.heap → Frm X env sc m σ.length ρ s.heap → OkE X σ ρ s K Q → ErE X env.frame σ ρ s K E →
    wpAny (model X.prog X.w) A (boolOp pos op (evalEach es env)) Q E s
  | [], σ, s, ρ, hw, ar, R, F, ok, er => hw.elim
  | [e], σ, s, ρ, hw, ar, R, F, ok, er => hev _ _ _ _ hw A s ρ Q E ar R F ok er
  | e :: e' :: r, σ, s, ρ, hw, ar, R, F, ok, er => by
    unfold wpBools at hw
    show wpAny _ A (eval e env >>= fun v => standAt pos >>= fun _ => holding [v] (truthy v) >>= fun t => _) Q E s
    refine wpAny_bind (SE.andThen (hev _ _ _ _ hw) ar R F er fun v σ₁ ρ₁ a h₁ tk hf R₁ g₁ hv ar₁ F₁ => ?_)
    obtain ⟨b, ht, hf⟩ := hf
    refine wpAny_bind (wpAny_standAt (wpAny_bind (wpAny_holding (truth_sound ht hv ?_))))
    have go : wpBools ev op (e' :: r) m σ₁ K → wpAny (model X.prog X.w) A (boolOp pos op (evalEach (e' :: r) env)) Q E { s with heap := h₁, toks := tk } :=
      fun hw' => bools_sound hev (e' :: r) σ₁ { s with heap := h₁, toks := tk } ρ₁ hw' ar₁ R₁ F₁ (ok.after g₁) (er.after g₁)
    cases op <;> cases b <;> dsimp only at hf ⊢
    · exact wpAny_pure (ok _ _ _ _ _ _ hf R₁ g₁ hv)
    · exact go hf
    · exact go hf
    · exact wpAny_pure (ok _ _ _ _ _ _ hf R₁ g₁ hv)

theorem cmps_sound {ev : Ev} {pos : Pos} {f : Bool → Store → Prop} {Q : Value → Shared → Prop} (hev : ∀ e m σ K, ev e m σ K → SE X k env sc (eval e env) m σ K) : ∀ (ops : List CmpOp) (es : List Expr) (a : V) (va : Value) (σ : Store) (s : Shared) (ρ : Nat → Addr),
    wpCmps ev ops es a m σ K f → Ar X k A env s.heap → Rep X ρ σ s.heap → Frm X env sc m σ.length ρ s.heap → Has X σ.length ρ s.heap a va → ErE X env.frame σ ρ s K E →
    (∀ r σ' ρ' h' tk, f r σ' → Rep X ρ' σ' h' → Go Nowhere σ ρ s.heap σ' ρ' h' → Ar X k A env h' → Frm X env sc m σ'.length ρ' h' → Q (.bool r) { s with heap := h', toks := tk }) →
    wpAny (model X.prog X.w) A (compareChain pos va ops (markedEach ops es (evalEach es env))) Q E s
  | [op], [e], a, va, σ, s, ρ, hw, ar, R, F, hv, er, h => by
    unfold wpCmps at hw
    show wpAny _ A (holding [va] (markedBehindIn op e (eval e env)) >>= fun rv => standAt pos >>= fun _ => operate [va, rv] (compareOp op va rv)) Q E s
    rw [markedBehindIn_of_false hw.1]
    refine wpAny_bind (wpAny_holding (SE.andThen (hev _ _ _ _ hw.2) ar R F er fun b σ₁ ρ₁ vb h₁ tk hf R₁ g₁ hb ar₁ F₁ => ?_))
    exact wpAny_bind (wpAny_standAt (wpAny_operating (cmp_sound hf ar₁ R₁ (hv.go R g₁ .nowhere) hb fun r hr => h r σ₁ ρ₁ h₁ tk hr R₁ g₁ ar₁ F₁)))
  | op :: op' :: ops, e :: e' :: es, a, va, σ, s, ρ, hw, ar, R, F, hv, er, h => by
    unfold wpCmps at hw
    show wpAny _ A (holding [va] (eval e env) >>= fun rv => standAt pos >>= fun _ => holding [va, rv] (compareOp op va rv) >>= fun c => release [va, rv] [c] >>= fun _ => holding [c, rv] (truthy c) >>= fun t =>
      if t = true then compareChain pos rv (op' :: ops) (markedEach (op' :: ops) (e' :: es) (evalEach (e' :: es) env)) else pure c) Q E s
    refine wpAny_bind (wpAny_holding (SE.andThen (hev _ _ _ _ hw) ar R F er fun b σ₁ ρ₁ vb h₁ tk hf R₁ g₁ hb ar₁ F₁ => ?_))
    refine wpAny_bind (wpAny_standAt (wpAny_bind (wpAny_holding (cmp_sound hf ar₁ R₁ (hv.go R g₁ .nowhere) hb fun r hr => ?_))))
    refine wpAny_bind (release_any (wpAny_bind (wpAny_holding (wpAny_truthy_bool ?_))))
    cases r with
    | false => exact wpAny_pure (h false σ₁ ρ₁ h₁ tk hr R₁ g₁ ar₁ F₁)
    | true =>
      refine cmps_sound hev (op' :: ops) (e' :: es) b vb σ₁ { s with heap := h₁, toks := tk } ρ₁ hr ar₁ R₁ F₁ hb (er.after g₁) fun r σ₂ ρ₂ h₂ tk₂ hf₂ R₂ g₂ ar₂ F₂ => ?_
      exact h r σ₂ ρ₂ h₂ tk₂ hf₂ R₂ (g₁.trans g₂) ar₂ F₂
  | [], _, _, _, _, _, _, hw, _, _, _, _, _, _ => by unfold wpCmps at hw; exact hw.elim
  | [_], [], _, _, _, _, _, hw, _, _, _, _, _, _ => by unfold wpCmps at hw; exact hw.elim
  | _ :: _ :: _, [], _, _, _, _, _, hw, _, _, _, _, _, _ => by unfold wpCmps at hw; exact hw.elim
  | [_], _ :: _ :: _, _, _, _, s, ρ, hw, ar, R, F, hv, er, h => by
    unfold wpCmps at hw; exact hw.elim
  | _ :: _ :: _, [_], _, _, _, _, _, hw, _, _, _, _, _, _ => by
    unfold wpCmps at hw; exact hw.elim
end
end Mine

set_option Elab.async false
set_option autoImplicit false
set_option linter.unusedVariables false
namespace Mine
open PySem PySem.Spec PySem.Calls PyProof.Rows

/-! the heap only grows -/
theorem runs_size {M : Model} {Γ : PySem.Ctx} {p : Pos} {t : Sem Fin} {fs : List Frame} {s s' : Shared} {e : End} (h : Runs M Γ p t fs s e s') : s.heap.objs.size ≤ s'.heap.objs.size := by
  induction h <;> (try simp only [Shared.setGen, Heap.size_push, Heap.size_after_update] at *) <;> omega
theorem wakes_size {M : Model} {Γ : PySem.Ctx} {p : Pos} {g : Nat} {r : Resume} {s s' : Shared} {res : GenResult} (h : Wakes M Γ p g r s res s') : s.heap.objs.size ≤ s'.heap.objs.size := by
  unfold Wakes at h
  split at h
  · exact h.elim
  · split at h
    · obtain ⟨e₁, s₁, hr, _, _, rfl⟩ := h; exact (runs_size hr : (s.setGen g .running).heap.objs.size ≤ s₁.heap.objs.size)
    · rw [h.2]; exact Nat.le_refl _
    · rw [h.2]; exact Nat.le_refl _
  · obtain ⟨e₁, s₁, hr, _, _, rfl⟩ := h; exact (runs_size hr : (s.setGen g .running).heap.objs.size ≤ s₁.heap.objs.size)
  · rw [h.2]; exact Nat.le_refl _
  · rw [h.2]; exact Nat.le_refl _

theorem wp_size {α : Type} (M : Model) (Γ : PySem.Ctx) (n : Nat) (t : Sem α) : ∀ (Q : α → Pos → Shared → Prop) (E : Value → Pos → Shared → Prop) (p : Pos) (s : Shared), n ≤ s.heap.objs.size → Sem.wp M Γ t Q E p s →
    Sem.wp M Γ t (fun a p' s' => n ≤ s'.heap.objs.size ∧ Q a p' s') (fun e p' s' => n ≤ s'.heap.objs.size ∧ E e p' s') p s := by
  induction t with
  | pure a => intro Q E p s hn h; exact ⟨hn, h⟩
  | raise e => intro Q E p s hn h; exact ⟨hn, h⟩
  | unsupported _ => intro Q E p s _ h; exact h
  | finish _ => intro Q E p s _ h; exact h
  | rule _ k ih => intro Q E p s hn h; exact ih () Q E p s hn h
  | «at» p' k ih => intro Q E p s hn h; exact ih () Q E p' s hn h
  | load a _ k ih => intro Q E p s hn h; obtain ⟨o, ho, h⟩ := h; exact ⟨o, ho, ih o Q E p s hn h⟩
  | update a _ f k ih => intro Q E p s hn h; exact ⟨h.1, ih () Q E p _ (by show n ≤ (s.heap.update a f).objs.size; rw [Heap.size_after_update]; exact hn) h.2⟩
  | loadIfAlive a k ih => intro Q E p s hn h; exact ih _ Q E p s hn h
  | point _ k ih => intro Q E p s hn h; exact ih () Q E p s hn h
  | register _ _ => intro Q E p s _ h; exact h
  | alloc o k ih => intro Q E p s hn h; exact ih _ Q E p _ (by show n ≤ (s.heap.push o).objs.size; rw [Heap.size_push]; exact Nat.le_succ_of_le hn) h
  | fresh k ih => intro Q E p s hn h; exact ih _ Q E p _ hn h
  | ask k ih => intro Q E p s hn h; exact ih _ Q E p s hn h
  | choose src m k ih => intro Q E p s hn h; exact ⟨h.1, ih _ Q E p _ hn h.2⟩
  | os q _ k ih => intro Q E p s hn h; exact ih _ Q E p _ hn h
  | call c hd _ _ k ih => intro Q E p s hn h; obtain ⟨r, s', hr, h⟩ := h; exact ⟨r, s', hr, ih r Q E p s' (Nat.le_trans hn (runs_size hr)) h⟩
  | handled own k ih => intro Q E p s hn h; exact ih _ Q E p s hn h
  | genState g k ih => intro Q E p s hn h; obtain ⟨st, hs, h⟩ := h; exact ⟨st, hs, ih _ Q E p s hn h⟩
  | newGen c k ih => intro Q E p s hn h; exact ih _ Q E p _ hn h
  | resume g r _ k ih => intro Q E p s hn h; obtain ⟨res, s', hw, h⟩ := h; exact ⟨res, s', hw, ih res Q E p s' (Nat.le_trans hn (wakes_size hw)) h⟩
  | yield _ _ _ _ => intro Q E p s _ h; exact h
  | stack k ih => intro Q E p s hn h; exact ih _ Q E p s hn h
  | fork _ _ => intro Q E p s _ h; exact h
  | thread k ih => intro Q E p s hn h; exact ih _ Q E p s hn h
  | await _ _ _ _ _ => intro Q E p s _ h; exact h

theorem wpAny_sized {α : Type} {M : Model} {A : Around} {s : Shared} {t : Sem α} {Q : α → Shared → Prop} {E : Value → Shared → Prop}
    (h : wpAny M A t (fun a s' => s.heap.objs.size ≤ s'.heap.objs.size → Q a s') (fun e s' => s.heap.objs.size ≤ s'.heap.objs.size → E e s') s) : wpAny M A t Q E s :=
  fun Γ p hΓ => Sem.wp_mono M Γ t (fun _ _ _ x => x.2 x.1) (fun _ _ _ x => x.2 x.1) p s (wp_size M Γ s.heap.objs.size t _ _ p s (Nat.le_refl _) (h Γ p hΓ))

/-- all stands but what lies at I -/
structure Ext1 (I : Addr) (h h' : Heap) : Prop where
  size : h.objs.size ≤ h'.objs.size
  keep : ∀ b o, b ≠ I → h.get? b = some o → h'.get? b = some o

/-- an iterator at I that has given k items of src -/
inductive IterAt (ρ : Nat → Addr) (h : Heap) (I : Addr) (k : Nat) : V → Prop
  | ref {l} : h.IsListIter I (ρ l) k → IterAt ρ h I k (.ref l)
  | tup {xs t items} : h.IsTupleIter I t k → h.IsTuple t items → ReadsAll h items.toList xs [] → IterAt ρ h I k (.d (.tuple xs))
  | rng {lo hi} : IsRangeIter h I (lo + k) (Builtin.Range.rangeSize lo hi 1 - k) 1 → IterAt ρ h I k (.rng lo hi)

/-- the iterator's own object -/
noncomputable def IterObj (o : Obj) : Prop := (∃ T ∈ iterTypes, o.cls = .type T) ∧ ∃ vs, o.data = .fields vs

theorem IterAt.obj {ρ : Nat → Addr} {h : Heap} {I : Addr} {k : Nat} {src : V} (x : IterAt ρ h I k src) : ∃ o, h.get? I = some o ∧ IterObj o := by
  cases x with
  | ref hi => obtain ⟨o, h1, h2, h3⟩ := hi; exact ⟨o, h1, ⟨_, by simp [iterTypes], h2⟩, _, h3⟩
  | tup hi _ _ => obtain ⟨o, h1, h2, h3⟩ := hi; exact ⟨o, h1, ⟨"tuple_iterator", by simp [iterTypes], h2⟩, _, h3⟩
  | rng hi => exact ⟨_, hi, ⟨"range_iterator", by simp [iterTypes], rfl⟩, _, rfl⟩

section
variable {X : Cx} {σ σ' : Store} {ρ ρ' : Nat → Addr} {h h' h'' : Heap} {I : Addr} {k : Nat} {src : V} {W : Addr → Prop}

noncomputable def SrcOk (n : Nat) : V → Prop
  | .ref l => l < n
  | _ => True

theorem IterAt.mono (x : IterAt ρ h I k src) {n : Nat} (hs : SrcOk n src) (hρ : ∀ i, i < n → ρ' i = ρ i) (hI : ∀ o, h.get? I = some o → IterObj o → h'.get? I = some o) (hk : ∀ b o, h.get? b = some o → Still o → h'.get? b = some o) : IterAt ρ' h' I k src := by
  obtain ⟨o, e, hio⟩ := x.obj
  have e' := hI o e hio
  cases x with
  | ref hi =>
    obtain ⟨o', h1, h2, h3⟩ := hi
    rw [e] at h1; cases h1
    exact .ref ⟨o, e', h2, by rw [hρ _ hs]; exact h3⟩
  | tup hi ht hr =>
    obtain ⟨o', h1, h2, h3⟩ := hi
    rw [e] at h1; cases h1
    obtain ⟨o', t1, t2, n, t3⟩ := ht
    exact .tup ⟨o, e', h2, h3⟩ ⟨o', hk _ _ t1 (.tuple t2 t3), t2, n, t3⟩ (readsAll_flat (fun b o e hc hs => let ⟨_, _, hd⟩ := hs; hk b o e (.tuple hc hd)) hr rfl)
  | rng hi =>
    rw [hi] at e; cases e
    exact .rng e'

theorem Rep.notIter (R : Rep X ρ σ h) {o : Obj} (e : h.get? I = some o) (ho : IterObj o) : ∀ i, i < σ.length → I ≠ ρ i :=
  R.notCell e (by obtain ⟨⟨T, hT, hc⟩, _⟩ := ho; rw [hc]; simp [iterTypes] at hT; rcases hT with rfl | rfl | rfl | rfl | rfl | rfl <;> decide)

theorem IterAt.go (x : IterAt ρ h I k src) (hs : SrcOk σ.length src) (R : Rep X ρ σ h) (g : Go W σ ρ h σ' ρ' h') (w : WOk W h) : IterAt ρ' h' I k src :=
  x.mono hs g.ext (fun o e ho => by
    have hnd : NoDict o := fun es n q => by obtain ⟨_, vs, hd⟩ := ho; rw [hd] at q; cases q
    have hnw : ¬ W I := fun q => by
      rcases w I o q e with ⟨es, n, hd⟩ | ⟨v, hd⟩
      · exact hnd es n hd
      · obtain ⟨_, vs, hd'⟩ := ho; rw [hd'] at hd; cases hd
    obtain ⟨sl, e1, f1⟩ := g.keep I o e hnw (R.notIter e ho)
    rw [f1 hnd] at e1
    exact e1) (g.still R w)

theorem Ext1.still (x : Ext1 I h h') {o : Obj} (e : h.get? I = some o) (ho : IterObj o) : ∀ b o, h.get? b = some o → Still o → h'.get? b = some o := fun b o' e' hs => by
  refine x.keep b o' (fun q => ?_) e'
  subst q
  rw [e] at e'; cases e'
  obtain ⟨⟨T, hT, hc⟩, _⟩ := ho
  exact hs.noiter T hT hc

theorem Rep.ext1 (R : Rep X ρ σ h) (x : Ext1 I h h') {o : Obj} (e : h.get? I = some o) (ho : IterObj o) (hb : X.B.get? I = none) : Rep X ρ σ h' where
  base := fun b o' e' => x.keep b o' (fun q => by subst q; rw [hb] at e'; cases e') (R.base b o' e')
  cell := fun i c hc => by
    obtain ⟨its, ⟨n, hp⟩, ha⟩ := R.cell i c hc
    exact ⟨its, ⟨n, x.keep _ _ (Ne.symm (R.notIter e ho i (List.getElem?_eq_some_iff.mp hc).1)) hp⟩, ha.mono (Nat.le_refl _) (fun _ _ => rfl) (x.still e ho)⟩
  own := R.own
  inj := R.inj

theorem Go.ext1 (g : Go W σ ρ h σ' ρ' h') (x : Ext1 I h' h'') (hI : h.objs.size ≤ I) : Go W σ ρ h σ' ρ' h'' where
  size := Nat.le_trans g.size x.size
  keep := fun b o e hw hb => let ⟨sl, e1, f1⟩ := g.keep b o e hw hb; ⟨sl, x.keep _ _ (Nat.ne_of_lt (Nat.lt_of_lt_of_le (Heap.lt_size e) hI)) e1, f1⟩
  dicts := fun b o es n e d => let ⟨o', es', n', e', d'⟩ := g.dicts b o es n e d; ⟨o', es', n', x.keep _ _ (Nat.ne_of_lt (Nat.lt_of_lt_of_le (Heap.lt_size e) hI)) e', d'⟩
  len := g.len
  ext := g.ext
  new := g.new

theorem Frm.ext1 {env : Env} {sc : Kinds} {m : Loc} {n : Nat} (F : Frm X env sc m n ρ h) (x : Ext1 I h h') {o : Obj} (e : h.get? I = some o) (ho : IterObj o) : Frm X env sc m n ρ h' := by
  have st := x.still e ho
  have hv : ∀ {v a}, Has X n ρ h v a → Has X n ρ h' v a := fun q => q.mono (Nat.le_refl _) (fun _ _ => rfl) st
  have hc : ∀ c ov, h.IsCell c ov → h'.IsCell c ov := fun c ov ⟨o', e', d⟩ => ⟨o', x.keep _ _ (fun q => by subst q; rw [e] at e'; cases e'; obtain ⟨_, vs, hd⟩ := ho; rw [hd] at d; cases d) e', d⟩
  refine { F with ns := ?_, cells := ?_, isCells := ?_ }
  · obtain ⟨mm, ⟨o', es, ep, e', d, r⟩, hm⟩ := F.ns
    refine ⟨mm, ⟨o', es, ep, x.keep _ _ (fun q => ?_) e', d, r⟩, fun y v h1 h2 => let ⟨a, h3, h4⟩ := hm y v h1 h2; ⟨a, h3, hv h4⟩⟩
    rw [q] at e'; rw [e] at e'; cases e'; obtain ⟨_, vs, hd⟩ := ho; rw [hd] at d; cases d
  · intro y hy
    obtain ⟨c, ov, h1, h2, h3⟩ := F.cells y hy
    exact ⟨c, ov, h1, hc c ov h2, fun v q => let ⟨a, h4, h5⟩ := h3 v q; ⟨a, h4, hv h5⟩⟩
  · intro y c hy
    obtain ⟨ov, h1⟩ := F.isCells y c hy
    exact ⟨ov, hc c ov h1⟩

theorem Ar.ext1 {k : Nat} {A : Around} {env : Env} (a : Ar X k A env h) (x : Ext1 I h h') {o : Obj} (e : h.get? I = some o) (ho : IterObj o) : Ar X k A env h' :=
  by
  refine { a with stack := ?_ }
  obtain ⟨f, ou, h1, h2, h3⟩ := a.stack
  refine ⟨f, ou, h1, h2, fun env he => ?_⟩
  obtain ⟨q1, L, o', es, n, q2, q3, q4, q5⟩ := h3 env he
  refine ⟨q1, L, o', es, n, q2, q3, x.keep _ _ (fun q => ?_) q4, q5⟩
  subst q; rw [e] at q4; cases q4; obtain ⟨_, vs, hd⟩ := ho; rw [hd] at q5; cases q5

/-- a new object that is no cell of the store -/
theorem Rep.push (R : Rep X ρ σ h) (o : Obj) : Rep X ρ σ (h.push o) ∧ Go W σ ρ h σ ρ (h.push o) := by
  have hk : ∀ b o', h.get? b = some o' → (h.push o).get? b = some o' := fun b o' e => Heap.get?_push_of_some _ e
  refine ⟨⟨fun b o' e => hk _ _ (R.base b o' e), fun i c hc => ?_, R.own, R.inj⟩, ⟨by rw [Heap.size_push]; exact Nat.le_succ _, fun b o' e _ _ => ⟨o'.slots, hk b o' e, fun _ => rfl⟩, fun b o' es n e d => ⟨o', es, n, hk _ _ e, d⟩, Nat.le_refl _, fun _ _ => rfl, fun i h1 h2 => absurd h2 (Nat.not_lt.mpr h1)⟩⟩
  obtain ⟨its, ⟨n, hp⟩, ha⟩ := R.cell i c hc
  exact ⟨its, ⟨n, hk _ _ hp⟩, ha.mono (Nat.le_refl _) (fun _ _ => rfl) fun b o' e _ => hk b o' e⟩
end

section
variable {X : Cx} {k : Nat} {env : Env} {sc : Kinds} {m : Loc} {σ : Store} {A : Around} {s : Shared} {ρ : Nat → Addr} {E : Value → Shared → Prop}

noncomputable def IsSrc : V → Prop
  | .ref _ => True
  | .d (.tuple _) => True
  | .rng _ _ => True
  | _ => False

theorem isSrc_of {src : V} {i : Nat} {r : Option V} (h : srcNext σ src i = some r) : IsSrc src := by
  unfold srcNext at h
  split at h <;> first | exact trivial | cases h

theorem srcOk_of {src : V} {a : Value} {h : Heap} (x : Has X σ.length ρ h src a) : SrcOk σ.length src := by
  cases x <;> first | exact trivial | assumption

theorem iter_sound {src : V} {a : Value} {Q : Value → Shared → Prop} (hs : IsSrc src) (R : Rep X ρ σ s.heap) (hv : Has X σ.length ρ s.heap src a)
    (h : ∀ h', IterAt ρ h' s.heap.objs.size 0 src → (∃ o, h' = s.heap.push o) → Q (.ref s.heap.objs.size) { s with heap := h' }) : wpAny (model X.prog X.w) A (pyIter a) Q E s := by
  unfold IsSrc at hs
  split at hs
  · obtain ⟨hi, rfl⟩ := hv.ref_inv
    obtain ⟨its, ⟨n, hp⟩, ha⟩ := R.cell _ _ (List.getElem?_eq_getElem hi)
    exact wpAny_pyIter_list ⟨_, hp, rfl, n, rfl⟩ (h _ (.ref ⟨_, Heap.get?_push_size _ rfl, rfl, rfl⟩) ⟨_, rfl⟩)
  · have r := hv.d_inv
    cases r with
    | @tuple a o vs n xs as e1 e2 e3 e4 =>
      refine wpAny_pyIter_tuple ⟨o, e1, e2, n, e3⟩ (h _ (.tup ⟨_, Heap.get?_push_size _ rfl, rfl, rfl⟩ ⟨o, Heap.get?_push_of_some _ e1, e2, n, e3⟩ ?_) ⟨_, rfl⟩)
      exact readsAll_flat (fun b o e _ _ => Heap.get?_push_of_some _ e) e4 rfl
  · cases hv with
    | rng h1 h2 =>
      refine wpAny_pyIter_range h1 h2 (h _ (.rng ?_) ⟨_, rfl⟩)
      simpa using Heap.get?_push_size s.heap (o := { cls := .type "range_iterator", data := .fields #[rawInt _, rawInt (Builtin.Range.rangeSize _ _ 1), rawInt 1] }) rfl
  · exact hs.elim

theorem iterAgain_sound {src : V} {I : Addr} {j : Nat} {Q : Value → Shared → Prop} (it : IterAt ρ s.heap I j src) (h : Q (.ref I) s) : wpAny (model X.prog X.w) A (pyIter (.ref I)) Q E s := by
  cases it with
  | ref hi => exact wpAny_pyIter_listiter hi h
  | tup hi _ _ => exact wpAny_pyIter_tupleiter hi h
  | rng hi => exact wpAny_pyIter_rangeiter hi h

theorem next_sound {src : V} {I : Addr} {j : Nat} {r : Option V} {Q : Option Value → Shared → Prop} (hh : A.handled = none) (R : Rep X ρ σ s.heap) (it : IterAt ρ s.heap I j src) (hs : SrcOk σ.length src) (e : srcNext σ src j = some r)
    (hsome : ∀ v a h' tk, r = some v → Has X σ.length ρ h' v a → IterAt ρ h' I (j + 1) src → Ext1 I s.heap h' → Q (some a) { s with heap := h', toks := tk })
    (hnone : ∀ h' tk, r = none → Ext1 I s.heap h' → Q none { s with heap := h', toks := tk }) : wpAny (model X.prog X.w) A (pyNext (.ref I)) Q E s := by
  obtain ⟨oI, eI, hoI⟩ := it.obj
  have sb : ∀ {h'}, Heap.SameBut I s.heap h' → Ext1 I s.heap h' := fun q => ⟨Nat.le_of_eq q.1.symm, fun b o hb e' => (q.2 b hb).trans e'⟩
  cases it with
  | @ref l hi =>
    have hl : l < σ.length := hs
    obtain ⟨its, ⟨n, hp⟩, ha⟩ := R.cell l _ (List.getElem?_eq_getElem hl)
    have hL : s.heap.IsList (ρ l) its.toArray := ⟨_, hp, rfl, n, rfl⟩
    have e' : r = (σ[l].items)[j]? := by
      unfold srcNext itemsAt at e
      simp only [List.getElem?_eq_getElem hl, Option.map_some] at e
      exact (Option.some.inj e).symm
    subst e'
    cases hx : (σ[l].items)[j]? with
    | some v =>
      obtain ⟨a, h1, h2⟩ := ha.get hx
      refine wpAny_pyNext_list_item hi hL (by simpa using h1) fun h' hi' hsb => ?_
      exact hsome v a h' s.toks hx (h2.mono (Nat.le_refl _) (fun _ _ => rfl) ((sb hsb).still eI hoI)) (.ref hi') (sb hsb)
    | none =>
      have : its.toArray[j]? = none := by
        have hlen := ha.length
        rw [List.getElem?_eq_none_iff] at hx
        simp; omega
      refine wpAny_sized (wpAny_pyNext_list_end hh hi hL this fun h' hext hsz => ?_)
      exact hnone h' s.toks hx ⟨hsz, fun b o hb e' => hext b o hb e'⟩
  | @tup xs t items hi ht hr =>
    have e' : r = xs[j]?.map V.d := (Option.some.inj e).symm
    subst e'
    cases hx : xs[j]? with
    | some v =>
      obtain ⟨a, h1, h2⟩ := readsAll_get hr rfl hx
      refine wpAny_pyNext_tuple_item hi ht (by simpa using h1) fun h' hi' hsb => ?_
      have st := (sb hsb).still eI hoI
      obtain ⟨o', t1, t2, n, t3⟩ := ht
      exact hsome (.d v) a h' s.toks (by rw [hx]; rfl) ((Has.d h2).mono (X := X) (n := σ.length) (ρ := ρ) (Nat.le_refl _) (fun _ _ => rfl) st) (.tup hi' ⟨o', st _ _ t1 (.tuple t2 t3), t2, n, t3⟩ (readsAll_flat (fun b o e hc hs => let ⟨_, _, hd⟩ := hs; st b o e (.tuple hc hd)) hr rfl)) (sb hsb)
    | none =>
      have : items[j]? = none := by
        have hlen := SeqAt.ReadsAll.length _ _ _ hr
        rw [List.getElem?_eq_none_iff] at hx
        simp at hlen ⊢; omega
      refine wpAny_sized (wpAny_pyNext_tuple_end hh hi ht this fun h' hext hsz => ?_)
      exact hnone h' s.toks (by rw [hx]; rfl) ⟨hsz, fun b o hb e' => hext b o hb e'⟩
  | @rng lo hi hit =>
    have e' : r = if lo + j < hi then some (.d (.int (lo + j))) else none := (Option.some.inj e).symm
    subst e'
    have hsize : Builtin.Range.rangeSize lo hi 1 = if lo < hi then hi - lo else 0 := by
      unfold Builtin.Range.rangeSize
      simp only [show (1 : Int) > 0 by decide, if_true]
      split
      · rw [Int.ediv_one]; omega
      · rfl
    by_cases hlt : lo + j < hi
    · refine wpAny_pyNext_range_item hit (by rw [hsize, if_pos (by omega)]; omega) fun h' hi' hsb => ?_
      refine hsome _ _ h' _ (if_pos hlt) (.ofInt ..) (.rng ?_) (sb hsb)
      have e1 : lo + (j : Int) + 1 = lo + ((j + 1 : Nat) : Int) := by omega
      have e2 : Builtin.Range.rangeSize lo hi 1 - (j : Int) - 1 = Builtin.Range.rangeSize lo hi 1 - ((j + 1 : Nat) : Int) := by omega
      rw [← e1, ← e2]; exact hi'
    · refine wpAny_sized (wpAny_pyNext_range_end hh hit (by rw [hsize]; split <;> omega) fun h' hext hsz => ?_)
      exact hnone h' s.toks (if_neg hlt) ⟨hsz, fun b o hb e' => hext b o hb e'⟩
end
end Mine

set_option Elab.async false
set_option autoImplicit false
set_option linter.unusedVariables false
namespace Mine
open PySem PySem.Spec PySem.Calls PyProof.Rows

theorem upd_upd (m : Loc) (x : Str) (u v : V) : upd (upd m x u) x v = upd m x v := by
  funext y; unfold upd; split <;> rfl

section
variable {X : Cx} {σ σ' : Store} {ρ ρ' : Nat → Addr} {h h' h'' : Heap} {D : Addr} {env : Env} {sc : Kinds} {m : Loc}

/-- what lies at D and is no value's object: the rest stands -/
theorem Rep.but (R : Rep X ρ σ h) (x : Ext1 D h h') (hn : ∀ o, h.get? D = some o → ¬ Still o) (hc : ∀ i, i < σ.length → ρ i ≠ D) (hb : X.B.get? D = none) : Rep X ρ σ h' where
  base := fun b o' e' => x.keep b o' (fun q => by subst q; rw [hb] at e'; cases e') (R.base b o' e')
  cell := fun i c hc' => by
    obtain ⟨its, ⟨n, hp⟩, ha⟩ := R.cell i c hc'
    exact ⟨its, ⟨n, x.keep _ _ (hc i (List.getElem?_eq_some_iff.mp hc').1) hp⟩, ha.mono (Nat.le_refl _) (fun _ _ => rfl) fun b o e hs => x.keep b o (fun q => hn o (q ▸ e) hs) e⟩
  own := R.own
  inj := R.inj

theorem Ext1.still' (x : Ext1 D h h') (hn : ∀ o, h.get? D = some o → ¬ Still o) : ∀ b o, h.get? b = some o → Still o → h'.get? b = some o :=
  fun b o e hs => x.keep b o (fun q => hn o (q ▸ e) hs) e

theorem Frm.but {n : Nat} (F : Frm X env sc m n ρ h) (x : Ext1 D h h') (hn : ∀ o, h.get? D = some o → ¬ Still o ∧ NoDict o ∧ ∀ v, o.data ≠ .cell v) : Frm X env sc m n ρ h' := by
  have st := x.still' fun o e => (hn o e).1
  have hv : ∀ {v a}, Has X n ρ h v a → Has X n ρ h' v a := fun q => q.mono (Nat.le_refl _) (fun _ _ => rfl) st
  have hc : ∀ c ov, h.IsCell c ov → h'.IsCell c ov := fun c ov ⟨o', e', d⟩ => ⟨o', x.keep _ _ (fun q => (hn o' (q ▸ e')).2.2 _ d) e', d⟩
  refine { F with ns := ?_, cells := ?_, isCells := ?_ }
  · obtain ⟨mm, ⟨o', es, ep, e', d, r⟩, hm⟩ := F.ns
    exact ⟨mm, ⟨o', es, ep, x.keep _ _ (fun q => (hn o' (q ▸ e')).2.1 es ep d) e', d, r⟩, fun y v h1 h2 => let ⟨a, h3, h4⟩ := hm y v h1 h2; ⟨a, h3, hv h4⟩⟩
  · intro y hy
    obtain ⟨c, ov, h1, h2, h3⟩ := F.cells y hy
    exact ⟨c, ov, h1, hc c ov h2, fun v q => let ⟨a, h4, h5⟩ := h3 v q; ⟨a, h4, hv h5⟩⟩
  · intro y c hy
    obtain ⟨ov, h1⟩ := F.isCells y c hy
    exact ⟨ov, hc c ov h1⟩

theorem Ar.but {k : Nat} {A : Around} (a : Ar X k A env h) (x : Ext1 D h h') (hn : ∀ o, h.get? D = some o → NoDict o) : Ar X k A env h' := by
  refine { a with stack := ?_ }
  obtain ⟨f, ou, h1, h2, h3⟩ := a.stack
  refine ⟨f, ou, h1, h2, fun env he => ?_⟩
  obtain ⟨q1, L, o', es, n, q2, q3, q4, q5⟩ := h3 env he
  exact ⟨q1, L, o', es, n, q2, q3, x.keep _ _ (fun q => hn o' (q ▸ q4) es n q5) q4, q5⟩

theorem Ext1.ofSame (q : Heap.SameBut D h h') : Ext1 D h h' := ⟨Nat.le_of_eq q.1.symm, fun b o hb e => (q.2 b hb).trans e⟩

theorem Still.notNs {o : Obj} {es n} (hd : o.data = .dict es n) : ¬ Still o := fun s => s.nodict es n hd
theorem Still.notCell {o : Obj} {v} (hd : o.data = .cell v) : ¬ Still o := fun s => s.nocell v hd
theorem Still.notList {o : Obj} (hc : o.cls = .type "list") : ¬ Still o := fun s => s.cls hc

theorem Rep.lt (R : Rep X ρ σ h) {i : Nat} (hi : i < σ.length) : ρ i < h.objs.size := by
  obtain ⟨_, ⟨_, hp⟩, _⟩ := R.cell i _ (List.getElem?_eq_getElem hi)
  exact Heap.lt_size hp

/-- a list that stands on the heap comes into the store -/
theorem Rep.adopt (R : Rep X ρ σ h) {vs : List V} {items : List Value} {n : Nat} (hD : h.get? D = some { cls := .type "list", data := .seq items.toArray n }) (hv : HasAll X σ.length ρ h vs items)
    (hc : ∀ i, i < σ.length → ρ i ≠ D) (hb : X.B.get? D = none) :
    ∃ ρ', Rep X ρ' (σ ++ [.lst vs]) h ∧ (∀ i, i < σ.length → ρ' i = ρ i) ∧ ρ' σ.length = D := by
  let ρ' := fun i => if i = σ.length then D else ρ i
  have hρ : ∀ i, i < σ.length → ρ' i = ρ i := fun i hi => if_neg (Nat.ne_of_lt hi)
  have hD' : ρ' σ.length = D := if_pos rfl
  have last : ∀ {i c}, (σ ++ [Cell.lst vs])[i]? = some c → ¬ i < σ.length → i = σ.length := fun {i c} hc hi => by
    have := (List.getElem?_eq_some_iff.mp hc).1
    simp at this; omega
  refine ⟨ρ', ⟨R.base, ?_, ?_, ?_⟩, hρ, hD'⟩
  · intro i c hc'
    by_cases hi : i < σ.length
    · rw [List.getElem?_append_left hi] at hc'
      obtain ⟨its, ⟨k, hp⟩, ha⟩ := R.cell i c hc'
      rw [hρ i hi]
      exact ⟨its, ⟨k, hp⟩, ha.mono (by simp) hρ fun _ _ e _ => e⟩
    · have hi' := last hc' hi
      subst hi'
      simp at hc'; subst hc'
      rw [hD']
      exact ⟨items, ⟨n, hD⟩, hv.mono (by simp) hρ fun _ _ e _ => e⟩
  · intro i c hc' ho
    by_cases hi : i < σ.length
    · rw [List.getElem?_append_left hi] at hc'; rw [hρ i hi]; exact R.own i c hc' ho
    · rw [last hc' hi, hD']; exact hb
  · intro i j hi hj e
    simp only [List.length_append, List.length_cons, List.length_nil] at hi hj
    by_cases h1 : i = σ.length <;> by_cases h2 : j = σ.length
    · omega
    · rw [h1, hD', hρ j (by omega)] at e; exact absurd e.symm (hc j (by omega))
    · rw [h2, hD', hρ i (by omega)] at e; exact absurd e (hc i (by omega))
    · rw [hρ i (by omega), hρ j (by omega)] at e; exact R.inj i j (by omega) (by omega) e
end

section
variable {X : Cx} {k : Nat} {env : Env} {sc : Kinds} {m : Loc} {σ : Store} {A : Around} {s : Shared} {ρ : Nat → Addr} {E : Value → Shared → Prop} {Q : Unit → Shared → Prop}

theorem storeLocal_sound {x : Str} {v : V} {a : Value} (R : Rep X ρ σ s.heap) (F : Frm X env sc m σ.length ρ s.heap) (hx : sc x = some .local) (hv : Has X σ.length ρ s.heap v a)
    (h : ∀ h' tk, Rep X ρ σ h' → Go (· = env.locals) σ ρ s.heap σ ρ h' → Frm X env sc (upd m x v) σ.length ρ h' → Heap.SameBut env.locals s.heap h' → Q () { s with heap := h', toks := tk }) :
    wpAny (model X.prog X.w) A (storeName env x a) Q E s := by
  obtain ⟨mm, hns, hm⟩ := F.ns
  refine wpAny_storeName_local (F.kinds.loc x hx) hns (fun h' hn' hsb => ?_) (by rw [F.kind]; rfl)
  obtain ⟨oL, esL, epL, eL, dL, rL⟩ := hns
  have ex := Ext1.ofSame hsb
  have hn : ∀ o, s.heap.get? env.locals = some o → ¬ Still o := fun o e => by rw [eL] at e; cases e; exact Still.notNs dL
  have st := ex.still' hn
  have R' := R.but ex hn F.sepL F.newL
  have hv' : ∀ {v a}, Has X σ.length ρ s.heap v a → Has X σ.length ρ h' v a := fun q => q.mono (Nat.le_refl _) (fun _ _ => rfl) st
  have hcell : ∀ c ov, s.heap.IsCell c ov → h'.IsCell c ov := fun c ov ⟨o', e', d⟩ => ⟨o', ex.keep _ _ (fun q => by rw [q, eL] at e'; cases e'; rw [dL] at d; cases d) e', d⟩
  refine h h' _ R' ⟨ex.size, fun b o e hw _ => ⟨o.slots, ex.keep b o hw e, fun _ => rfl⟩, fun b o es n e d => ?_, Nat.le_refl _, fun _ _ => rfl, fun i h1 h2 => absurd h2 (Nat.not_lt.mpr h1)⟩ ?_ hsb
  · by_cases hb : b = env.locals
    · subst hb
      obtain ⟨o', es', ep', e', d', _⟩ := hn'
      exact ⟨o', es', ep', e', d'⟩
    · exact ⟨o, es, n, ex.keep b o hb e, d⟩
  · refine { F with ns := ⟨_, hn', ?_⟩, cells := ?_, isCells := ?_ }
    · intro y u hy hu
      unfold upd at hu
      by_cases hyx : y = x
      · rw [if_pos hyx] at hu; cases hu
        exact ⟨a, if_pos hyx, hv' hv⟩
      · rw [if_neg hyx] at hu
        obtain ⟨b, h1, h2⟩ := hm y u hy hu
        exact ⟨b, by rw [if_neg hyx]; exact h1, hv' h2⟩
    · intro y hy
      obtain ⟨c, ov, h1, h2, h3⟩ := F.cells y hy
      refine ⟨c, ov, h1, hcell c ov h2, fun u hu => ?_⟩
      unfold upd at hu
      by_cases hyx : y = x
      · rw [hyx, hx] at hy; rcases hy with q | q <;> cases q
      · rw [if_neg hyx] at hu
        obtain ⟨b, h4, h5⟩ := h3 u hu
        exact ⟨b, h4, hv' h5⟩
    · intro y c hy
      obtain ⟨ov, h1⟩ := F.isCells y c hy
      exact ⟨ov, hcell c ov h1⟩

theorem store_sound {x : Str} {v : V} {a : Value} (R : Rep X ρ σ s.heap) (F : Frm X env sc m σ.length ρ s.heap) (hx : bindable sc x) (hv : Has X σ.length ρ s.heap v a)
    (h : ∀ h' tk, Rep X ρ σ h' → Go (Wr env) σ ρ s.heap σ ρ h' → Frm X env sc (upd m x v) σ.length ρ h' → Q () { s with heap := h', toks := tk }) :
    wpAny (model X.prog X.w) A (storeName env x a) Q E s := by
  rcases hx with hx | hx
  · exact storeLocal_sound R F hx hv fun h' tk R' g F' _ => h h' tk R' (g.weaken fun b _ _ q => .inl q) F'
  · obtain ⟨c, ov, h1, h2, h3⟩ := F.cells x (.inl hx)
    refine wpAny_storeName_cell F.kind (F.kinds.cell x hx) h1 h2 fun h' hc' hsb => ?_
    obtain ⟨oc, ec, dc⟩ := h2
    have ex := Ext1.ofSame hsb
    have hn : ∀ o, s.heap.get? c = some o → ¬ Still o := fun o e => by rw [ec] at e; cases e; exact Still.notCell dc
    have st := ex.still' hn
    have hsep : ∀ i, i < σ.length → ρ i ≠ c := by
      rintro i hi rfl
      obtain ⟨items, ⟨q, hp⟩, _⟩ := R.cell i _ (List.getElem?_eq_getElem hi)
      rw [hp] at ec; cases ec; cases dc
    have R' := R.but ex hn hsep (F.newC x c h1)
    have hv' : ∀ {v a}, Has X σ.length ρ s.heap v a → Has X σ.length ρ h' v a := fun q => q.mono (Nat.le_refl _) (fun _ _ => rfl) st
    refine h h' _ R' ⟨ex.size, fun b o e hw _ => ⟨o.slots, ex.keep b o (fun q => hw (.inr ⟨x, q ▸ h1⟩)) e, fun _ => rfl⟩, fun b o es n e d => ?_, Nat.le_refl _, fun _ _ => rfl, fun i h1 h2 => absurd h2 (Nat.not_lt.mpr h1)⟩ ?_
    · exact ⟨o, es, n, ex.keep b o (fun q => by rw [q, ec] at e; cases e; rw [dc] at d; cases d) e, d⟩
    · refine { F with ns := ?_, cells := ?_, isCells := ?_ }
      · obtain ⟨mm, ⟨oL, esL, epL, eL, dL, rL⟩, hm⟩ := F.ns
        refine ⟨mm, ⟨oL, esL, epL, ex.keep _ _ (fun q => by rw [q, ec] at eL; cases eL; rw [dc] at dL; cases dL) eL, dL, rL⟩, fun y u hy hu => ?_⟩
        unfold upd at hu
        by_cases hyx : y = x
        · rw [hyx, hx] at hy; cases hy
        · rw [if_neg hyx] at hu
          obtain ⟨b, h4, h5⟩ := hm y u hy hu
          exact ⟨b, h4, hv' h5⟩
      · intro y hy
        by_cases hyx : y = x
        · subst hyx
          refine ⟨c, some a, h1, hc', fun u hu => ?_⟩
          unfold upd at hu
          rw [if_pos rfl] at hu; cases hu
          exact ⟨a, rfl, hv' hv⟩
        · obtain ⟨c', ov', q1, q2, q3⟩ := F.cells y hy
          have hne : c' ≠ c := fun q => hyx (F.apart y x c (q ▸ q1) h1)
          obtain ⟨o', e', d'⟩ := q2
          refine ⟨c', ov', q1, ⟨o', ex.keep _ _ hne e', d'⟩, fun u hu => ?_⟩
          unfold upd at hu
          rw [if_neg hyx] at hu
          obtain ⟨b, h4, h5⟩ := q3 u hu
          exact ⟨b, h4, hv' h5⟩
      · intro y c' hy
        by_cases hne : c' = c
        · subst hne; exact ⟨_, hc'⟩
        · obtain ⟨ov', o', e', d'⟩ := F.isCells y c' hy
          exact ⟨ov', o', ex.keep _ _ hne e', d'⟩
end
end Mine

set_option Elab.async false
set_option autoImplicit false
set_option linter.unusedVariables false
namespace Mine
open PySem PySem.Spec PySem.Calls PyProof.Rows

noncomputable def clos (cells : List (Str × Addr)) : List (Str × NameKind) → List (Str × Addr) → List (Str × Addr)
  | [], acc => acc
  | (n, k) :: r, acc => if k == .free then (match cells.lookup n with | some c => clos cells r ((n, c) :: acc) | none => clos cells r acc) else clos cells r acc

theorem clos_forIn {env : Env} (f : Str × NameKind → List (Str × Addr) → Sem (ForInStep (List (Str × Addr))))
    (hf : ∀ n k cs, f (n, k) cs = if k == .free then (do let c ← cellOf env n; pure (.yield ((n, c) :: cs))) else pure (.yield cs)) :
    ∀ (names : List (Str × NameKind)) (acc : List (Str × Addr)), (∀ y ∈ names, y.2 = .free → ∃ c, env.cells.lookup y.1 = some c) → forIn names acc f = pure (clos env.cells names acc)
  | [], acc, _ => by rw [List.forIn_nil]; rfl
  | (n, k) :: r, acc, h => by
    rw [List.forIn_cons, hf]
    have hr := clos_forIn f hf r
    unfold clos
    by_cases hk : k = .free
    · subst hk
      obtain ⟨c, hc⟩ := h (n, .free) List.mem_cons_self rfl
      simp only [beq_self_eq_true, if_true]
      have : cellOf env n = pure c := by unfold cellOf; rw [hc]
      rw [this, hc]
      exact hr _ fun y hy => h y (List.mem_cons_of_mem _ hy)
    · have hb : (k == NameKind.free) = false := by simpa using hk
      simp only [hb, Bool.false_eq_true, if_false]
      exact hr _ fun y hy => h y (List.mem_cons_of_mem _ hy)

theorem closureFor_eq {env : Env} {scope : Scope} (h : ∀ y ∈ scope.names, y.2 = .free → ∃ c, env.cells.lookup y.1 = some c) : closureFor scope env = pure (clos env.cells scope.names []) := by
  simp only [closureFor]
  rw [clos_forIn (env := env) _ (fun n k cs => by cases hk : k == NameKind.free <;> simp [hk]) scope.names [] h]
  rfl

theorem clos_lookup {cells : List (Str × Addr)} : ∀ (names : List (Str × NameKind)) (acc : List (Str × Addr)), (∀ n c, acc.lookup n = some c → cells.lookup n = some c) → ∀ n c, (clos cells names acc).lookup n = some c → cells.lookup n = some c
  | [], acc, h, n, c, e => h n c e
  | (y, k) :: r, acc, h, n, c, e => by
    unfold clos at e
    split at e
    · split at e
      · rename_i c' hc'
        refine clos_lookup r _ (fun n' c'' q => ?_) n c e
        rw [List.lookup_cons] at q
        cases hb : n' == y with
        | true => rw [hb] at q; cases q; rw [beq_iff_eq.mp hb]; exact hc'
        | false => rw [hb] at q; exact h n' c'' q
      · exact clos_lookup r acc h n c e
    · exact clos_lookup r acc h n c e

theorem clos_isSome {cells : List (Str × Addr)} {n : Str} : ∀ (names : List (Str × NameKind)) (acc : List (Str × Addr)), (acc.lookup n).isSome = true ∨ ((n, NameKind.free) ∈ names ∧ (cells.lookup n).isSome = true) → ((clos cells names acc).lookup n).isSome = true
  | [], acc, h => by
    rcases h with h | h
    · exact h
    · exact absurd h.1 (by simp)
  | (y, k) :: r, acc, h => by
    unfold clos
    split
    · rename_i hk
      split
      · rename_i c hc
        refine clos_isSome r _ ?_
        by_cases hy : (n == y) = true
        · left; rw [List.lookup_cons, hy]; rfl
        · rcases h with h | ⟨h, h'⟩
          · left; rw [List.lookup_cons]; simp only [hy]; exact h
          · rcases List.mem_cons.mp h with e | h
            · cases e; simp at hy
            · exact .inr ⟨h, h'⟩
      · rename_i hc
        refine clos_isSome r _ ?_
        rcases h with h | ⟨h, h'⟩
        · exact .inl h
        · rcases List.mem_cons.mp h with e | h
          · cases e; rw [hc] at h'; cases h'
          · exact .inr ⟨h, h'⟩
    · rename_i hk
      refine clos_isSome r _ ?_
      rcases h with h | ⟨h, h'⟩
      · exact .inl h
      · rcases List.mem_cons.mp h with e | h
        · cases e; simp at hk
        · exact .inr ⟨h, h'⟩

theorem lookup_relabel {env : Env} (hk : env.scope.kind = .function) : ∀ {names : List (Str × NameKind)} {x : Str} {k : NameKind}, names.lookup x = some k →
    (names.map fun (n, k) => if (k == NameKind.free && env.scope.kind == .function && env.kindOf n == some .cell) then (n, NameKind.cell) else (n, k)).lookup x =
      some (if (k == NameKind.free && env.kindOf x == some .cell) then NameKind.cell else k)
  | [], _, _, h => by simp at h
  | (n, k') :: r, x, k, h => by
    have ih := @lookup_relabel env hk r x k
    show List.lookup x ((if (k' == NameKind.free && env.scope.kind == .function && env.kindOf n == some .cell) = true then (n, NameKind.cell) else (n, k')) :: _) = _
    cases hx : x == n with
    | true =>
      simp only [List.lookup_cons, hx] at h
      cases h
      have hxn := beq_iff_eq.mp hx
      subst hxn
      rw [hk]
      by_cases hc : (k' == NameKind.free && env.kindOf x == some .cell) = true
      · have : (k' == NameKind.free && ScopeKind.function == ScopeKind.function && env.kindOf x == some .cell) = true := by simpa using hc
        rw [if_pos this, if_pos hc]; simp
      · have : ¬ (k' == NameKind.free && ScopeKind.function == ScopeKind.function && env.kindOf x == some .cell) = true := by simpa using hc
        rw [if_neg this, if_neg hc]; simp
    | false =>
      simp only [List.lookup_cons, hx] at h
      by_cases hc : (k' == NameKind.free && env.scope.kind == .function && env.kindOf n == some .cell) = true
      · rw [if_pos hc]; simp only [List.lookup_cons, hx]; exact ih h
      · rw [if_neg hc]; simp only [List.lookup_cons, hx]; exact ih h

theorem mem_lookup {α : Type} : ∀ {l : List (Str × α)} {n : Str} {c : α}, l.lookup n = some c → (n, c) ∈ l := fun h => mem_of_lookup h

structure CompOk (sc : Kinds) (scope : Scope) (x : Str) : Prop where
  kind : scope.kind = .function
  loc : scope.names.lookup x = some .local
  nocell : ∀ y ∈ scope.names, y.2 ≠ .cell
  names : ∀ y ∈ scope.names, y.2 = .local → scope.names.lookup y.1 = some .local
  free : ∀ y ∈ scope.names, y.2 = .free → sc y.1 = some .cell ∨ sc y.1 = some .free
  debug : scope.names.lookup ("__debug__" : Str) = none
  classdict : scope.names.lookup ("__classdict__" : Str) = none

theorem compOk_of {sc : Kinds} {scope : Scope} {x : Str} (h : compOkB sc scope x = true) : CompOk sc scope x := by
  unfold compOkB at h
  simp only [Bool.and_eq_true, beq_iff_eq, List.all_eq_true, bne_iff_ne, ne_eq, Bool.or_eq_true, Option.isNone_iff_eq_none] at h
  obtain ⟨⟨⟨⟨h1, h2⟩, h3⟩, h4⟩, h5⟩ := h
  refine ⟨h1, h2, fun y hy => (h3 y hy).1.1, fun y hy hl => ((h3 y hy).1.2).resolve_left (fun q => q hl), fun y hy hf => ?_, h4, h5⟩
  rcases (h3 y hy).2 with (q | q) | q
  · exact absurd hf q
  · exact .inl q
  · exact .inr q

section
variable {X : Cx} {env : Env} {sc : Kinds} {m : Loc} {σ : Store} {ρ : Nat → Addr} {h h' : Heap} {scope : Scope} {x : Str}

theorem Frm.closure (F : Frm X env sc m σ.length ρ h) (ok : CompOk sc scope x) : closureFor scope env = pure (clos env.cells scope.names []) :=
  closureFor_eq fun y hy hf => let ⟨c, _, h1, _⟩ := F.cells y.1 ((ok.free y hy hf)); ⟨c, h1⟩

theorem clos_sub {cells : List (Str × Addr)} {names : List (Str × NameKind)} {n : Str} {c : Addr} (e : (clos cells names []).lookup n = some c) : cells.lookup n = some c :=
  clos_lookup names [] (fun _ _ q => by simp at q) n c e

/-- the frame of a comprehension: its own names none yet -/
theorem Frm.comp (F : Frm X env sc m σ.length ρ h) (ok : CompOk sc scope x) {C : Addr} (hns : h.Ns C fun _ => none) (hC : X.B.get? C = none) (hsep : ∀ i, i < σ.length → ρ i ≠ C) :
    Frm X (compEnvC scope (clos env.cells scope.names []) C env) (kindsOf scope.names) (compLoc scope.names m) σ.length ρ h where
  kind := ok.kind
  glob := F.glob
  bi := F.bi
  kinds := {
    loc := fun y hy => lookup_relabel_local hy
    cell := fun y hy => absurd rfl (ok.nocell _ (mem_lookup hy))
    free := fun y hy => by
      have := lookup_relabel (env := env) F.kind hy
      show (relabel scope env).names.lookup y = some .cell ∨ (relabel scope env).names.lookup y = some .free
      unfold relabel
      simp only
      rw [this]
      split
      · exact .inl rfl
      · exact .inr rfl
    glob := fun y hy => by
      have := lookup_relabel (env := env) F.kind hy
      show (relabel scope env).names.lookup y = _
      unfold relabel
      simp only
      rw [this]; rfl
    debug := ok.debug
    classdict := ok.classdict }
  ns := ⟨_, hns, fun y v hy hv => by
    unfold compLoc at hv
    have hy' : scope.names.lookup y = some .local := hy
    rw [hy'] at hv; cases hv⟩
  cells := fun y hy => by
    have hf : scope.names.lookup y = some .free := by
      rcases hy with q | q
      · exact absurd rfl (ok.nocell _ (mem_lookup q))
      · exact q
    obtain ⟨c, ov, h1, h2, h3⟩ := F.cells y (ok.free _ (mem_lookup hf) rfl)
    have hs := clos_isSome (cells := env.cells) (n := y) scope.names [] (.inr ⟨mem_lookup hf, by rw [h1]; rfl⟩)
    obtain ⟨c', hc'⟩ := Option.isSome_iff_exists.mp hs
    have := clos_sub hc'
    rw [h1] at this; cases this
    refine ⟨c, ov, hc', h2, fun v hv => h3 v ?_⟩
    unfold compLoc at hv
    rw [hf] at hv; exact hv
  isCells := fun y c hy => F.isCells y c (clos_sub hy)
  sepL := hsep
  newL := hC
  newC := fun y c hy => F.newC y c (clos_sub hy)
  apart := fun y z c hy hz => F.apart y z c (clos_sub hy) (clos_sub hz)
end
end Mine

set_option Elab.async false
set_option autoImplicit false
set_option linter.unusedVariables false
namespace Mine
open PySem PySem.Spec PySem.Calls PyProof.Rows

section
variable {X : Cx} {σ σ' : Store} {ρ ρ' : Nat → Addr} {h h' h'' : Heap} {env : Env} {sc : Kinds} {m : Loc} {W : Addr → Prop}

theorem Rep.grow (R : Rep X ρ σ h) (hk : ∀ b o, h.get? b = some o → h'.get? b = some o) : Rep X ρ σ h' where
  base := fun b o e => hk _ _ (R.base b o e)
  cell := fun i c hc => let ⟨its, ⟨n, hp⟩, ha⟩ := R.cell i c hc; ⟨its, ⟨n, hk _ _ hp⟩, ha.mono (Nat.le_refl _) (fun _ _ => rfl) fun b o e _ => hk b o e⟩
  own := R.own
  inj := R.inj
theorem Go.ofGrow (hz : h.objs.size ≤ h'.objs.size) (hk : ∀ b o, h.get? b = some o → h'.get? b = some o) : Go W σ ρ h σ ρ h' :=
  ⟨hz, fun b o e _ _ => ⟨o.slots, hk b o e, fun _ => rfl⟩, fun b o es n e d => ⟨o, es, n, hk _ _ e, d⟩, Nat.le_refl _, fun _ _ => rfl, fun i h1 h2 => absurd h2 (Nat.not_lt.mpr h1)⟩

theorem foldedSet_no {e : Expr} (h : noSet e = true) (v : Value) : foldedSetIterable e env v = pure v := by
  unfold foldedSetIterable
  split
  · exact absurd h (by simp [noSet])
  · rfl
end

section
variable {X : Cx} {k : Nat} {Γ : Sig} {env : Env} {sc : Kinds} {m : Loc} {σ : Store} {K : OutE → Prop} {A : Around} {s : Shared} {ρ : Nat → Addr} {E : Value → Shared → Prop} {n : Nat}

theorem ifs_sound {tv : Tv} (htv : ∀ e m σ K f, tv e m σ K f → ST X k env sc (isTrue e env (eval e env)) m σ K f) {ifs : List Expr} {f : Bool → Store → Prop} {Q : Bool → Shared → Prop} (hw : wpIfs tv ifs m σ (fun _ => False) f)
    (ar : Ar X k A env s.heap) (R : Rep X ρ σ s.heap) (F : Frm X env sc m σ.length ρ s.heap)
    (h : ∀ b σ' ρ' h' tk, f b σ' → Rep X ρ' σ' h' → Go Nowhere σ ρ s.heap σ' ρ' h' → Ar X k A env h' → Frm X env sc m σ'.length ρ' h' → Q b { s with heap := h', toks := tk }) :
    wpAny (model X.prog X.w) A (forIn ifs true fun c r => if r = true then do let ok ← isTrue c env (eval c env); pure (ForInStep.yield ok) else pure (ForInStep.yield r)) Q E s := by
  match ifs, hw with
  | [], hw => exact wpAny_tests_nil (h true σ ρ s.heap s.toks hw R (.refl ..) ar F)
  | [e], hw => exact wpAny_tests_one (htv _ _ _ _ _ hw A s ρ Q E ar R F h fun _ _ _ _ _ _ hK => hK.elim)
  | _ :: _ :: _, hw => exact (hw : False).elim

theorem comp_core {elt iter : Expr} {x : Str} {px pos pos' : Pos} {ifs : List Expr} {scope : Scope} {use : Option (Value → Sem Unit)} {Q : Value → Shared → Prop}
    (hev : ∀ env' sc' e m σ K, wpE Γ n sc' e m σ K → SE X k env' sc' (eval e env') m σ K)
    (htv : ∀ env' sc' e m σ K f, wpT Γ n sc' e m σ K f → ST X k env' sc' (isTrue e env' (eval e env')) m σ K f)
    (ok : CompOk sc scope x) (hset : noSet iter = true)
    (hw : wpE Γ n sc iter m σ (thenE K fun src σ => ∃ (N : Nat) (I : Nat → List V → Store → Prop), N ≤ 1000000 ∧ I 0 [] σ ∧
          (∀ k acc σ, k < N → I k acc σ → ∃ v, srcNext σ src k = some (some v) ∧ acc.length ≤ k ∧
            wpIfs (wpT Γ n (kindsOf scope.names)) ifs (upd (compLoc scope.names m) x v) σ (fun _ => False) fun b σ => if b then wpE Γ n (kindsOf scope.names) elt (upd (compLoc scope.names m) x v) σ (noExn fun w σ => I (k + 1) (acc ++ [w]) σ) else I (k + 1) acc σ) ∧
          (∀ acc σ, I N acc σ → srcNext σ src N = some none ∧ K (.val (.ref σ.length) (σ ++ [.lst acc])))))
    (ar : Ar X k A env s.heap) (R : Rep X ρ σ s.heap) (F : Frm X env sc m σ.length ρ s.heap) (er : ErE X env.frame σ ρ s K E)
    (fin : ∀ acc σ' ρ' C h' tk mC, K (.val (.ref σ'.length) (σ' ++ [.lst acc])) → Rep X ρ' (σ' ++ [.lst acc]) h' → Go Nowhere σ ρ s.heap (σ' ++ [.lst acc]) ρ' h' → h'.Ns C mC → s.heap.objs.size ≤ C →
      (∀ i, i < (σ' ++ [Cell.lst acc]).length → ρ' i ≠ C) → X.B.get? C = none → compPost (model X.prog X.w) A E use Q (.ref (ρ' σ'.length)) C (.ok .next) { s with heap := h', toks := tk }) :
    wpAny (model X.prog X.w) A (comprehension (.ListComp elt [⟨.Name x px, iter, ifs, 0⟩] scope pos) scope env pos' (newList []) false (eval iter env) use) Q E s := by
  refine wpAny_comprehension_free rfl (fun v => foldedSet_no hset v) (F.closure ok) ok.kind ok.names ?_
  refine SE.andThen (hev _ _ _ _ _ _ hw) ar R F er fun src σ₁ ρ₁ a h₁ tk₁ hf R₁ g₁ hsrc ar₁ F₁ => ?_
  obtain ⟨N, I, hN, h0, hstep, hend⟩ := hf
  have hIs : IsSrc src := by
    by_cases hN0 : 0 < N
    · obtain ⟨v, hv, _⟩ := hstep 0 [] σ₁ hN0 h0
      exact isSrc_of hv
    · have : N = 0 := by omega
      subst this
      exact isSrc_of (hend [] σ₁ h0).1
  have hso := srcOk_of hsrc
  refine iter_sound (s := { s with heap := h₁, toks := tk₁ }) hIs R₁ hsrc fun h₂ it₂ hpush => ?_
  obtain ⟨o₂, rfl⟩ := hpush
  refine wpAny_newObj_type (wpAny_newFunctionEnv ok.nocell (by intro y hy; simp at hy) (fun h₃ hns₃ hsb₃ => ?_) ok.kind)
  dsimp only at hns₃ hsb₃ ⊢
  generalize hIa : h₁.objs.size = Ia at *
  generalize hH2 : (h₁.push o₂).push { cls := .type "list", dict := none, data := .seq ([] : List Value).toArray } = H2 at hns₃ hsb₃ ⊢
  generalize hD : (h₁.push o₂).objs.size = D at *
  generalize hC : H2.objs.size = C at *
  have hD' : D = Ia + 1 := by rw [← hD, Heap.size_push, hIa]
  have hC' : C = Ia + 2 := by rw [← hC, ← hH2, Heap.size_push, Heap.size_push, hIa]
  have k₁₂ : ∀ b o, h₁.get? b = some o → H2.get? b = some o := fun b o e => by rw [← hH2]; exact Heap.get?_push_of_some _ (Heap.get?_push_of_some _ e)
  have keep₃ : ∀ b o, H2.get? b = some o → h₃.get? b = some o := fun b o e => hsb₃.extBut b o (Nat.ne_of_lt (hC ▸ Heap.lt_size e)) (Heap.get?_push_of_some _ e)
  have keep₁₃ : ∀ b o, h₁.get? b = some o → h₃.get? b = some o := fun b o e => keep₃ b o (k₁₂ b o e)
  have hz₃ : h₁.objs.size ≤ h₃.objs.size := by
    have e1 := hsb₃.1
    rw [Heap.size_push, hC] at e1
    rw [e1, hIa, hC']
    exact Nat.le_add_right _ 3
  have R₃ : Rep X ρ₁ σ₁ h₃ := R₁.grow keep₁₃
  have g₃ : Go (· = C) σ₁ ρ₁ h₁ σ₁ ρ₁ h₃ := .ofGrow hz₃ keep₁₃
  have F₁₃ : Frm X env sc m σ₁.length ρ₁ h₃ := F₁.go R₁ (.ofGrow hz₃ keep₁₃)
  have hlt₁ : ∀ i, i < σ₁.length → ρ₁ i < Ia := fun i hi => hIa ▸ R₁.lt hi
  have hbase : ∀ a, Ia ≤ a → X.B.get? a = none := fun a ha => by
    cases e : X.B.get? a with
    | none => rfl
    | some o => exact absurd (Heap.lt_size (R₁.base _ _ e)) (Nat.not_lt.mpr (hIa ▸ ha))
  have hns₃' : h₃.Ns C fun _ => none := by simpa using hns₃
  have F₃ := F₁₃.comp ok hns₃' (hbase C (by rw [hC']; exact Nat.le_add_right _ _)) fun i hi => Nat.ne_of_lt (Nat.lt_of_lt_of_le (hlt₁ i hi) (by rw [hC']; exact Nat.le_add_right _ _))
  have ar₃ : Ar X k A (compEnvC scope (clos env.cells scope.names []) C env) h₃ := (ar₁.go (.ofGrow (W := Nowhere) (σ := σ₁) (ρ := ρ₁) hz₃ keep₁₃)).reframe rfl
  have it₃ : IterAt ρ₁ h₃ Ia 0 src := it₂.mono hso (fun _ _ => rfl) (fun o e _ => keep₃ _ _ (by rw [← hH2]; exact Heap.get?_push_of_some _ e)) fun b o e _ => keep₃ _ _ (by rw [← hH2]; exact Heap.get?_push_of_some _ e)
  have hD₃ : h₃.get? D = some { cls := .type "list", data := .seq ([] : List Value).toArray 0 } := keep₃ _ _ (by rw [← hH2, ← hD]; exact Heap.get?_push_size _ rfl)
  have loop : ∀ s₃ : Shared, s₃ = { s with heap := h₃, toks := tk₁ } →
      codeAny (model X.prog X.w) A (.compLoop (.ListComp elt [⟨.Name x px, iter, ifs, 0⟩] scope pos) 0 (.ref Ia) (.ref D) (compEnvC scope (clos env.cells scope.names []) C env))
        (compPost (model X.prog X.w) A E use Q (.ref D) C) s₃ := by
    rintro s₃ rfl
    refine codeAny_compLoop_tests (fun c s' => ∃ kk acc σ' ρ' h' tk mm items nD, s' = { s with heap := h', toks := tk } ∧ kk ≤ N ∧ c = N + 1 - kk ∧ I kk acc σ' ∧ Rep X ρ' σ' h' ∧ Go (· = C) σ₁ ρ₁ h₁ σ' ρ' h' ∧
        Frm X (compEnvC scope (clos env.cells scope.names []) C env) (kindsOf scope.names) mm σ'.length ρ' h' ∧ (∀ v, upd mm x v = upd (compLoc scope.names m) x v) ∧ IterAt ρ' h' Ia kk src ∧
        h'.get? D = some { cls := .type "list", data := .seq (List.toArray items) nD } ∧ HasAll X σ'.length ρ' h' acc items ∧ (∀ i, i < σ'.length → ρ' i ≠ D) ∧ Ar X k A (compEnvC scope (clos env.cells scope.names []) C env) h')
      ?_ (N + 1) ⟨0, [], σ₁, ρ₁, h₃, tk₁, _, [], 0, rfl, Nat.zero_le _, rfl, h0, R₃, g₃, F₃, fun _ => rfl, it₃, hD₃, .nil, fun i hi => Nat.ne_of_lt (Nat.lt_of_lt_of_le (hlt₁ i hi) (by rw [hD']; exact Nat.le_succ _)), ar₃⟩
    rintro c s' ⟨kk, acc, σ', ρ', h', tk, mm, items, nD, rfl, hkk, rfl, hI, R', g', F', hmm, it', hDo, hall, hsepD, ar'⟩
    have hso' : SrcOk σ'.length src := by
      cases src <;> first | exact trivial | exact Nat.lt_of_lt_of_le hso g'.len
    obtain ⟨oI, eI, hoI⟩ := it'.obj
    have hIaB : X.B.get? Ia = none := hbase Ia (Nat.le_refl _)
    have hDI : D ≠ Ia := by rw [hD']; exact Nat.succ_ne_self _
    have hDC : D ≠ C := by rw [hD', hC']; exact Nat.ne_of_lt (Nat.lt_succ_self _)
    by_cases hlt : kk < N
    · obtain ⟨v, hnx, hlen, hbody⟩ := hstep kk acc σ' hlt hI
      refine next_sound (s := { s with heap := h', toks := tk }) ar'.handled R' it' hso' hnx ?_ ?_
      · rintro v' a h₄ tk₄ hv' hhas it₄ ex
        cases hv'
        have R₄ := R'.ext1 ex eI hoI hIaB
        have F₄ := F'.ext1 ex eI hoI
        have ar₄ := ar'.ext1 ex eI hoI
        have g₄ := g'.ext1 ex (Nat.le_of_eq hIa)
        have hall₄ : HasAll X σ'.length ρ' h₄ acc items := hall.mono (Nat.le_refl _) (fun _ _ => rfl) (ex.still eI hoI)
        have hD₄ := ex.keep _ _ hDI hDo
        refine wpAny_assign_Name (storeLocal_sound (s := { s with heap := h₄, toks := tk₄ }) R₄ F₄ ok.loc hhas fun h₅ tk₅ R₅ g₅ F₅ hsb₅ => ?_)
        rw [hmm] at F₅
        have wC : WOk (· = C) h₄ := fun b o hb e => by
          obtain ⟨_, ⟨o', es, ep, e', d, _⟩, _⟩ := F₄.ns
          have e'' : h₄.get? C = some o' := e'
          rw [← hb, e] at e''; cases e''
          exact .inl ⟨es, ep, d⟩
        have ar₅ := ar₄.go g₅
        have it₅ := it₄.go hso' R₄ g₅ wC
        have hall₅ := hall₄.go R₄ g₅ wC
        have hD₅ : h₅.get? D = some { cls := .type "list", data := .seq (List.toArray items) nD } := (hsb₅.2 D hDC).trans hD₄
        have G₅ := g₄.trans g₅
        refine ifs_sound (s := { s with heap := h₅, toks := tk₅ }) (fun e m σ K f => htv _ _ e m σ K f) hbody ar₅ R₅ F₅ fun b σ₆ ρ₆ h₆ tk₆ hb R₆ g₆ ar₆ F₆ => ?_
        have hkD : ∀ {σ₀ : Store} {ρ₀ : Nat → Addr} {ha hb : Heap} {σ₁' : Store} {ρ₁' : Nat → Addr}, Go Nowhere σ₀ ρ₀ ha σ₁' ρ₁' hb → (∀ i, i < σ₀.length → ρ₀ i ≠ D) → ha.get? D = some { cls := .type "list", data := .seq (List.toArray items) nD } →
            hb.get? D = some { cls := .type "list", data := .seq (List.toArray items) nD } ∧ ∀ i, i < σ₁'.length → ρ₁' i ≠ D := fun {σ₀ ρ₀ ha hb σ₁' ρ₁'} g hs e => by
          obtain ⟨sl, e1, f1⟩ := g.keep D _ e (fun q => q) fun i hi q => hs i hi q.symm
          rw [f1 (fun es n q => (nomatch q))] at e1
          refine ⟨e1, fun i hi => ?_⟩
          by_cases hl : i < σ₀.length
          · rw [g.ext i hl]; exact hs i hl
          · exact Nat.ne_of_gt (Nat.lt_of_lt_of_le (Heap.lt_size e) (g.new i (Nat.not_lt.mp hl) hi))
        obtain ⟨hD₆, hsep₆⟩ := hkD g₆ hsepD hD₅
        have hall₆ := hall₅.go R₅ g₆ .nowhere
        have it₆ := it₅.go hso' R₅ g₆ .nowhere
        have hso₆ : SrcOk σ₆.length src := by
          cases src <;> first | exact trivial | exact Nat.lt_of_lt_of_le hso' g₆.len
        have G₆ := G₅.trans (g₆.weaken fun _ _ _ q => q.elim)
        cases b with
        | false =>
          simp only [Bool.false_eq_true, if_false] at hb ⊢
          exact ⟨N + 1 - (kk + 1), by omega, kk + 1, acc, σ₆, ρ₆, h₆, tk₆, _, items, nD, rfl, hlt, rfl, hb, R₆, G₆, F₆, fun w => upd_upd _ _ _ _, it₆, hD₆, hall₆, hsep₆, ar₆⟩
        | true =>
          simp only [if_true] at hb ⊢
          refine hev _ _ _ _ _ _ hb A { s with heap := h₆, toks := tk₆ } ρ₆ _ _ ar₆ R₆ F₆ (fun w σ₇ ρ₇ y h₇ tk₇ hI₇ R₇ g₇ hw₇ => ?_) fun _ _ _ _ _ _ hK => hK.elim
          obtain ⟨hD₇, hsep₇⟩ := hkD g₇ hsep₆ hD₆
          have hall₇ := hall₆.go R₆ g₇ .nowhere
          have it₇ := it₆.go hso₆ R₆ g₇ .nowhere
          have ar₇ := ar₆.go g₇
          have F₇ := F₆.go R₆ g₇
          have G₇ := G₆.trans (g₇.weaken fun _ _ _ q => q.elim)
          have hsz : (List.toArray items).size ≤ sizeLine := by
            have := hall.length
            rw [sizeLine_eq, List.size_toArray]; omega
          refine wpAny_list_append_plain (s := { s with heap := h₇, toks := tk₇ }) ⟨nD, hD₇⟩ (fun h₈ hp₈ hsb₈ => ?_) hsz
          obtain ⟨n₈, hD₈⟩ := hp₈
          have ex₈ := Ext1.ofSame hsb₈
          have hnS : ∀ o, h₇.get? D = some o → ¬ Still o ∧ NoDict o ∧ ∀ v, o.data ≠ .cell v := fun o e => by
            rw [hD₇] at e; cases e
            exact ⟨Still.notList rfl, (fun _ _ q => nomatch q), (fun _ q => nomatch q)⟩
          have hDB : X.B.get? D = none := hbase D (by rw [hD']; exact Nat.le_succ _)
          have R₈ := R₇.but ex₈ (fun o e => (hnS o e).1) hsep₇ hDB
          have st₈ := ex₈.still' fun o e => (hnS o e).1
          refine ⟨N + 1 - (kk + 1), by omega, kk + 1, acc ++ [w], σ₇, ρ₇, h₈, tk₇, _, items ++ [y], n₈, rfl, hlt, rfl, hI₇, R₈, G₇.ext1 ex₈ (by rw [hD', hIa]; exact Nat.le_succ _), F₇.but ex₈ hnS, fun w => upd_upd _ _ _ _,
            it₇.mono (n := σ₇.length) (by cases src <;> first | exact trivial | exact Nat.lt_of_lt_of_le hso₆ g₇.len) (fun _ _ => rfl) (fun o e _ => ex₈.keep _ _ (Ne.symm hDI) e) st₈, by simpa using hD₈,
            (hall₇.append (.one hw₇)).mono (Nat.le_refl _) (fun _ _ => rfl) st₈, hsep₇, ar₇.but ex₈ fun o e => (hnS o e).2.1⟩
      · intro h₄ tk₄ hr; cases hr
    · have hkN : kk = N := by omega
      subst hkN
      obtain ⟨hnx, hK⟩ := hend acc σ' hI
      refine next_sound (s := { s with heap := h', toks := tk }) ar'.handled R' it' hso' hnx (fun _ _ _ _ hr => by cases hr) fun h₄ tk₄ _ ex => ?_
      have R₄ := R'.ext1 ex eI hoI hIaB
      have hall₄ : HasAll X σ'.length ρ' h₄ acc items := hall.mono (Nat.le_refl _) (fun _ _ => rfl) (ex.still eI hoI)
      have hD₄ := ex.keep _ _ hDI hDo
      have g₄ := g'.ext1 ex (Nat.le_of_eq hIa)
      have F₄ := F'.ext1 ex eI hoI
      obtain ⟨mC, hnsC, _⟩ := F₄.ns
      have hDB : X.B.get? D = none := hbase D (by rw [hD']; exact Nat.le_succ _)
      obtain ⟨ρa, Ra, hρa, hDa⟩ := R₄.adopt hD₄ hall₄ hsepD hDB
      have hszD : h₁.objs.size ≤ D := by rw [hD', hIa]; exact Nat.le_succ _
      have Ga : Go (· = C) σ₁ ρ₁ h₁ (σ' ++ [.lst acc]) ρa h₄ :=
        { size := g₄.size, keep := g₄.keep, dicts := g₄.dicts, len := Nat.le_trans g₄.len (by simp), ext := fun i hi => (hρa i (Nat.lt_of_lt_of_le hi g₄.len)).trans (g₄.ext i hi), new := fun i h1 h2 => by
            by_cases hl : i < σ'.length
            · rw [hρa i hl]; exact g₄.new i h1 hl
            · have : i = σ'.length := by simp at h2; omega
              subst this; rw [hDa]; exact hszD }
      have hCsz : h₁.objs.size ≤ C := by rw [hC', hIa]; exact Nat.le_add_right _ _
      have Ga' : Go Nowhere σ₁ ρ₁ h₁ (σ' ++ [.lst acc]) ρa h₄ := Ga.weaken fun b o e hb => absurd (hb ▸ Heap.lt_size e) (Nat.not_lt.mpr hCsz)
      have := fin acc σ' _ C h₄ tk₄ mC hK Ra (g₁.trans Ga') hnsC (Nat.le_trans g₁.size hCsz) (fun i hi => ?_) (hbase C (by rw [hC']; exact Nat.le_add_right _ _))
      · rw [hDa] at this; exact this
      · by_cases hl : i < σ'.length
        · rw [hρa i hl]; exact F'.sepL i hl
        · have : i = σ'.length := by simp at hi; omega
          subst this; rw [hDa]; exact hDC
  exact codeAny_compStart_list (loop _ rfl) (iterAgain_sound (s := { s with heap := h₃, toks := tk₁ }) it₃ (loop _ rfl))
end
end Mine

set_option Elab.async false
set_option autoImplicit false
set_option linter.unusedVariables false
namespace Mine
open PySem PySem.Spec PySem.Calls PyProof.Rows

section
variable {X : Cx} {k : Nat} {Γ : Sig} {env : Env} {sc : Kinds} {m : Loc} {σ : Store} {K : OutE → Prop} {A : Around} {s : Shared} {ρ : Nat → Addr} {E : Value → Shared → Prop}

theorem tests_sound {ev : Ev} {pos : Pos} {f : Bool → Store → Prop} {Q : Bool → Shared → Prop} (hev : ∀ e m σ K, ev e m σ K → SE X k env sc (eval e env) m σ K) : ∀ (ops : List CmpOp) (es : List Expr) (a : V) (va : Value) (σ : Store) (s : Shared) (ρ : Nat → Addr),
    wpCmps ev ops es a m σ K f → Ar X k A env s.heap → Rep X ρ σ s.heap → Frm X env sc m σ.length ρ s.heap → Has X σ.length ρ s.heap a va → ErE X env.frame σ ρ s K E →
    (∀ r σ' ρ' h' tk, f r σ' → Rep X ρ' σ' h' → Go Nowhere σ ρ s.heap σ' ρ' h' → Ar X k A env h' → Frm X env sc m σ'.length ρ' h' → Q r { s with heap := h', toks := tk }) →
    wpAny (model X.prog X.w) A (testChain pos va ops (markedEach ops es (evalEach es env))) Q E s
  | [op], [e], a, va, σ, s, ρ, hw, ar, R, F, hv, er, h => by
    unfold wpCmps at hw
    show wpAny _ A (holding [va] (markedBehindIn op e (eval e env)) >>= fun rv => standAt pos >>= fun _ => operate [va, rv] (compareOp op va rv) >>= fun c => holding [c] (truthy c)) Q E s
    rw [markedBehindIn_of_false hw.1]
    refine wpAny_bind (wpAny_holding (SE.andThen (hev _ _ _ _ hw.2) ar R F er fun b σ₁ ρ₁ vb h₁ tk hf R₁ g₁ hb ar₁ F₁ => ?_))
    exact wpAny_bind (wpAny_standAt (wpAny_bind (wpAny_operating (cmp_sound hf ar₁ R₁ (hv.go R g₁ .nowhere) hb fun r hr => wpAny_holding (wpAny_truthy_bool (h r σ₁ ρ₁ h₁ tk hr R₁ g₁ ar₁ F₁))))))
  | op :: op' :: ops, e :: e' :: es, a, va, σ, s, ρ, hw, ar, R, F, hv, er, h => by
    unfold wpCmps at hw
    show wpAny _ A (holding [va] (eval e env) >>= fun rv => standAt pos >>= fun _ => holding [va, rv] (compareOp op va rv) >>= fun c => release [va, rv] [c] >>= fun _ => holding [c, rv] (truthy c) >>= fun t =>
      if t = true then testChain pos rv (op' :: ops) (markedEach (op' :: ops) (e' :: es) (evalEach (e' :: es) env)) else pure false) Q E s
    refine wpAny_bind (wpAny_holding (SE.andThen (hev _ _ _ _ hw) ar R F er fun b σ₁ ρ₁ vb h₁ tk hf R₁ g₁ hb ar₁ F₁ => ?_))
    refine wpAny_bind (wpAny_standAt (wpAny_bind (wpAny_holding (cmp_sound hf ar₁ R₁ (hv.go R g₁ .nowhere) hb fun r hr => ?_))))
    refine wpAny_bind (release_any (wpAny_bind (wpAny_holding (wpAny_truthy_bool ?_))))
    cases r with
    | false => exact wpAny_pure (h false σ₁ ρ₁ h₁ tk hr R₁ g₁ ar₁ F₁)
    | true =>
      refine tests_sound hev (op' :: ops) (e' :: es) b vb σ₁ { s with heap := h₁, toks := tk } ρ₁ hr ar₁ R₁ F₁ hb (er.after g₁) fun r σ₂ ρ₂ h₂ tk₂ hf₂ R₂ g₂ ar₂ F₂ => ?_
      exact h r σ₂ ρ₂ h₂ tk₂ hf₂ R₂ (g₁.trans g₂) ar₂ F₂
  | [], _, _, _, _, _, _, hw, _, _, _, _, _, _ => by unfold wpCmps at hw; exact hw.elim
  | [_], [], _, _, _, _, _, hw, _, _, _, _, _, _ => by unfold wpCmps at hw; exact hw.elim
  | _ :: _ :: _, [], _, _, _, _, _, hw, _, _, _, _, _, _ => by unfold wpCmps at hw; exact hw.elim
  | [_], _ :: _ :: _, _, _, _, _, _, hw, _, _, _, _, _, _ => by unfold wpCmps at hw; exact hw.elim
  | _ :: _ :: _, [_], _, _, _, _, _, hw, _, _, _, _, _, _ => by unfold wpCmps at hw; exact hw.elim

theorem all_sound {tv : Tv} {op : BoolOp} {f : Bool → Store → Prop} {Q : Bool → Shared → Prop} (htv : ∀ e m σ K f, tv e m σ K f → ST X k env sc (isTrue e env (eval e env)) m σ K f) : ∀ (es : List Expr) (σ : Store) (s : Shared) (ρ : Nat → Addr),
    wpAll tv op es m σ K f → Ar X k A env s.heap → Rep X ρ σ s.heap → Frm X env sc m σ.length ρ s.heap → ErE X env.frame σ ρ s K E →
    (∀ r σ' ρ' h' tk, f r σ' → Rep X ρ' σ' h' → Go Nowhere σ ρ s.heap σ' ρ' h' → Ar X k A env h' → Frm X env sc m σ'.length ρ' h' → Q r { s with heap := h', toks := tk }) →
    wpAny (model X.prog X.w) A (allTrue op es env) Q E s
  | [], σ, s, ρ, hw, ar, R, F, er, h => wpAny_pure (h _ σ ρ s.heap s.toks hw R (.refl ..) ar F)
  | e :: r, σ, s, ρ, hw, ar, R, F, er, h => by
    unfold wpAll at hw
    have step : ∀ (b : Bool) σ₁ ρ₁ h₁ tk, Rep X ρ₁ σ₁ h₁ → Go Nowhere σ ρ s.heap σ₁ ρ₁ h₁ → Ar X k A env h₁ → Frm X env sc m σ₁.length ρ₁ h₁ → wpAll tv op r m σ₁ K f → wpAny (model X.prog X.w) A (allTrue op r env) Q E { s with heap := h₁, toks := tk } :=
      fun b σ₁ ρ₁ h₁ tk R₁ g₁ ar₁ F₁ hf => all_sound htv r σ₁ { s with heap := h₁, toks := tk } ρ₁ hf ar₁ R₁ F₁ (er.after g₁) fun r σ₂ ρ₂ h₂ tk₂ hf₂ R₂ g₂ ar₂ F₂ => h r σ₂ ρ₂ h₂ tk₂ hf₂ R₂ (g₁.trans g₂) ar₂ F₂
    cases op with
    | And =>
      refine wpAny_allTrue_And_cons (htv _ _ _ _ _ hw A s ρ _ E ar R F (fun b σ₁ ρ₁ h₁ tk hf R₁ g₁ ar₁ F₁ => ?_) er)
      cases b with
      | false => exact h false σ₁ ρ₁ h₁ tk hf R₁ g₁ ar₁ F₁
      | true => exact step true σ₁ ρ₁ h₁ tk R₁ g₁ ar₁ F₁ hf
    | Or =>
      refine wpAny_allTrue_Or_cons (htv _ _ _ _ _ hw A s ρ _ E ar R F (fun b σ₁ ρ₁ h₁ tk hf R₁ g₁ ar₁ F₁ => ?_) er)
      cases b with
      | true => exact h true σ₁ ρ₁ h₁ tk hf R₁ g₁ ar₁ F₁
      | false => exact step false σ₁ ρ₁ h₁ tk R₁ g₁ ar₁ F₁ hf

theorem isTrue_else {e : Expr} (h1 : ∀ x p, e ≠ .UnaryOp .Not x p) (h2 : ∀ o v p, e ≠ .BoolOp o v p) (h3 : ∀ a b c p, e ≠ .IfExp a b c p) (h4 : ∀ a b c p, e ≠ .Compare a b c p) (whole : Sem Value) :
    isTrue e env whole = (do let v ← whole; standAt e.pos; holding [v] (truthy v)) := by
  cases e with
  | UnaryOp op x p => cases op with
    | Not => exact absurd rfl (h1 _ _)
    | _ => rfl
  | BoolOp o v p => exact absurd rfl (h2 _ _ _)
  | IfExp a b c p => exact absurd rfl (h3 _ _ _ _)
  | Compare a b c p => exact absurd rfl (h4 _ _ _ _)
  | _ => rfl

theorem ST.ofE {e : Expr} {f : Bool → Store → Prop} (h1 : ∀ x p, e ≠ .UnaryOp .Not x p) (h2 : ∀ o v p, e ≠ .BoolOp o v p) (h3 : ∀ a b c p, e ≠ .IfExp a b c p) (h4 : ∀ a b c p, e ≠ .Compare a b c p)
    (x : SE X k env sc (eval e env) m σ (thenE K fun v σ => ∃ b, truthW v = some b ∧ f b σ)) : ST X k env sc (isTrue e env (eval e env)) m σ K f := by
  intro A s ρ Q E ar R F h er
  refine wpAny_isTrue_value (SE.andThen x ar R F er fun v σ₁ ρ₁ a h₁ tk hf R₁ g₁ hv ar₁ F₁ => ?_) (isTrue_else h1 h2 h3 h4 _)
  obtain ⟨b, ht, hf⟩ := hf
  exact truth_sound ht hv (h b σ₁ ρ₁ h₁ tk hf R₁ g₁ ar₁ F₁)

theorem newObjTuple {items : List Value} {Q : Value → Shared → Prop} (R : Rep X ρ σ s.heap) {ds : List PyData} (hv : HasAll X σ.length ρ s.heap (ds.map V.d) items)
    (h : ∀ h', Rep X ρ σ h' → Go Nowhere σ ρ s.heap σ ρ h' → Has X σ.length ρ h' (.d (.tuple ds)) (.ref s.heap.objs.size) → Q (.ref s.heap.objs.size) { s with heap := h' }) :
    Q (.ref s.heap.objs.size) { s with heap := s.heap.push { cls := .type "tuple", data := .seq items.toArray } } := by
  obtain ⟨R', g'⟩ := R.push (W := Nowhere) { cls := .type "tuple", data := .seq items.toArray }
  refine h _ R' g' (.d (.tuple (Heap.get?_push_size _ rfl) rfl rfl ?_))
  have : ∀ (ds : List PyData) (items : List Value), HasAll X σ.length ρ s.heap (ds.map V.d) items → ReadsAll s.heap items ds [] := by
    intro ds
    induction ds with
    | nil => intro items x; cases x; exact .nil
    | cons d ds ih =>
      intro items x
      cases x with
      | cons h1 h2 => exact .cons h1.d_inv (ih _ h2)
  exact readsAll_flat (fun b o e _ _ => Heap.get?_push_of_some _ e) (this ds items hv) rfl

theorem part_sound {ev : Ev} {e : Option Expr} {f : Option Int → Store → Prop} {Q : Value → Shared → Prop} (hev : ∀ e m σ K, ev e m σ K → SE X k env sc (eval e env) m σ K) (hw : wpO ev e m σ K f) (ar : Ar X k A env s.heap) (R : Rep X ρ σ s.heap)
    (F : Frm X env sc m σ.length ρ s.heap) (er : ErE X env.frame σ ρ s K E)
    (h : ∀ i v σ' ρ' h' tk, f i σ' → IsPart v i → Rep X ρ' σ' h' → Go Nowhere σ ρ s.heap σ' ρ' h' → Ar X k A env h' → Frm X env sc m σ'.length ρ' h' → Q v { s with heap := h', toks := tk }) : wpAny (model X.prog X.w) A (evalPart e env) Q E s := by
  cases e with
  | none => exact wpAny_pure (h none _ σ ρ s.heap s.toks hw .none R (.refl ..) ar F)
  | some e =>
    refine SE.andThen (hev _ _ _ _ hw) ar R F er fun v σ₁ ρ₁ a h₁ tk hf R₁ g₁ hv ar₁ F₁ => ?_
    obtain ⟨i, rfl, hf⟩ := hf
    obtain ⟨t, rfl⟩ := hv.int_inv
    exact h (some i) _ σ₁ ρ₁ h₁ tk hf (.int i t) R₁ g₁ ar₁ F₁

theorem noSuper_base {o : Expr} {name : Str} (h : noSuper o = true) : attributeBase o name env (eval o env) = eval o env := by
  unfold attributeBase
  split
  · exact absurd h (by simp [noSuper])
  · rfl

theorem methTy_is {ov : V} {ty : String} {a : Value} (h : methTy σ ov = some ty) (R : Rep X ρ σ s.heap) (hv : Has X σ.length ρ s.heap ov a) : s.TypeIs a ty ∧ ∀ b, a = .ref b → ∃ ob, s.heap.get? b = some ob ∧ ob.dict = none := by
  unfold methTy at h
  split at h
  · obtain ⟨xs, h1, rfl⟩ := Option.map_eq_some_iff.mp h
    obtain ⟨_, rfl⟩ := hv.ref_inv
    obtain ⟨_, its, ⟨n, e⟩, _⟩ := R.list h1
    exact ⟨⟨_, e, rfl⟩, fun b q => by cases q; exact ⟨_, e, rfl⟩⟩
  · cases h
    obtain ⟨t, rfl⟩ := hv.str_inv
    exact ⟨rfl, fun b q => nomatch q⟩
  · cases h

theorem starEach_length : ∀ (es : List Expr), (starEach es env).length = es.length
  | [] => rfl
  | e :: r => by
    have : ∃ x, starEach (e :: r) env = x :: starEach r env := by cases e <;> exact ⟨_, rfl⟩
    obtain ⟨x, hx⟩ := this
    rw [hx, List.length_cons, List.length_cons, starEach_length r]

theorem backTo_length {p : Pos} (l : List (Bool × Sem Value)) : (backTo p l).length = l.length := by unfold backTo; exact List.length_map ..

theorem meth_call {o : Expr} {name : Str} {apos pos : Pos} {ov : Value} {n : Nat} {args : List (Bool × Sem Value)} {T id : String} {Q : Value → Shared → Prop} (pa : PlainAttrs T) (slot : PySem.Slot T name id) (hty : typeOf (.builtin id) = pure (.type "method_descriptor"))
    (hline : (apos.endLine == pos.line) = true) (hstar : args.any (·.1) = false) (hn : n < 30) (ht : s.TypeIs ov T) (hd : ∀ a, ov = .ref a → ∃ ob, s.heap.get? a = some ob ∧ ob.dict = none)
    (h : wpAny (model X.prog X.w) A (callWith pos (.builtin id) [ov] args []) Q E s) : wpAny (model X.prog X.w) A (methodCall o name apos pos env ov n args []) Q E s := by
  have hform : methodCallForm n args [] = true := by
    unfold methodCallForm
    have : args.all (fun x => !x.1) = true := by
      rw [List.all_eq_true]
      intro x hx
      have := List.any_eq_false.mp hstar x hx
      simpa using this
    rw [this]
    simpa using hn
  have hpos : methodCallPos true o env apos pos = pure pos := by unfold methodCallPos; simp [hline]
  unfold methodCall
  rw [hform]
  refine wpAny_bind (wpAny_holding (getMethod_builtin ht pa slot hty hd ?_))
  exact wpAny_bind (wpAny_of_eq hpos h)

theorem sound (cx : CxOk X) (ok : SigOk X k Γ) : ∀ n, (∀ env sc e m σ K, wpE Γ n sc e m σ K → SE X k env sc (eval e env) m σ K) ∧
    (∀ env sc e m σ K f, wpT Γ n sc e m σ K f → ST X k env sc (isTrue e env (eval e env)) m σ K f) := by
  intro n
  induction n with
  | zero => exact ⟨fun env sc e m σ K h => by unfold wpE at h; exact h.elim, fun env sc e m σ K f h => by unfold wpT at h; exact h.elim⟩
  | succ n ih =>
    obtain ⟨ihE, ihT⟩ := ih
    constructor
    · intro env sc e m σ K hw A s ρ Q E ar R F hok er
      cases e with
      | Constant c j p => exact const_sound R (by simpa only [wpE] using hw) hok
      | Name x p => exact name_sound cx ok R F (by simpa only [wpE] using hw) hok
      | BinOp l op r p =>
        simp only [wpE] at hw
        refine wpAny_BinOp (SE.andThen (ihE _ _ _ _ _ _ hw) ar R F er fun a σ₁ ρ₁ va h₁ tk hf R₁ g₁ ha ar₁ F₁ => ?_)
        refine SE.andThen (s := { s with heap := h₁, toks := tk }) (ihE _ _ _ _ _ _ hf) ar₁ R₁ F₁ (er.after g₁) fun b σ₂ ρ₂ vb h₂ tk₂ hf₂ R₂ g₂ hb ar₂ F₂ => ?_
        exact bin_sound hf₂ R₂ (ha.go R₁ g₂ .nowhere) hb (hok.after (g₁.trans g₂))
      | UnaryOp op x p =>
        simp only [wpE] at hw
        refine wpAny_UnaryOp (SE.andThen (ihE _ _ _ _ _ _ hw) ar R F er fun a σ₁ ρ₁ va h₁ tk hf R₁ g₁ ha ar₁ F₁ => ?_)
        exact un_sound hf R₁ ha (hok.after g₁)
      | BoolOp op vs p =>
        simp only [wpE] at hw
        exact bools_sound (fun e m σ K => ihE env sc e m σ K) vs σ s ρ hw ar R F hok er
      | Compare l ops rs p =>
        simp only [wpE] at hw
        show wpAny _ A (eval l env >>= fun a => compareChain p a ops (markedEach ops rs (evalEach rs env))) Q E s
        refine wpAny_bind (SE.andThen (ihE _ _ _ _ _ _ hw) ar R F er fun a σ₁ ρ₁ va h₁ tk hf R₁ g₁ ha ar₁ F₁ => ?_)
        exact cmps_sound (fun e m σ K => ihE env sc e m σ K) ops rs a va σ₁ { s with heap := h₁, toks := tk } ρ₁ hf ar₁ R₁ F₁ ha (er.after g₁) fun r σ₂ ρ₂ h₂ tk₂ hK R₂ g₂ _ _ => hok _ _ _ _ _ _ hK R₂ (g₁.trans g₂) (.ofBool r)
      | List es p =>
        simp only [wpE] at hw
        refine wpAny_List_spliced (args_sound (fun e m σ K => ihE env sc e m σ K) es σ _ s ρ _ hw.1 hw.2 ar R F er fun vs σ₁ ρ₁ as h₁ tk hf R₁ g₁ hvs ar₁ F₁ => ⟨?_, ?_⟩)
        · rw [sizeLine_eq, ← hvs.length]; have := hf.1; omega
        · have := R₁.newList (n := 0) hvs
          have hh := hok _ _ _ (.ref h₁.objs.size) _ tk hf.2 this.1 (g₁.trans this.2) (by
            have := Has.ref (X := X) (n := (σ₁ ++ [Cell.lst vs]).length) (ρ := fun i => if i = σ₁.length then h₁.objs.size else ρ₁ i) (h := h₁.push { cls := .type "list", data := .seq as.toArray 0 }) (i := σ₁.length) (by simp)
            simpa using this)
          exact hh
      | Tuple es j p =>
        simp only [wpE] at hw
        refine wpAny_Tuple_spliced (args_sound (fun e m σ K => ihE env sc e m σ K) es σ _ s ρ _ hw.1 hw.2 ar R F er fun vs σ₁ ρ₁ as h₁ tk hf R₁ g₁ hvs ar₁ F₁ => ?_)
        obtain ⟨ds, rfl, hlen, hK⟩ := hf
        refine ⟨?_, newObjTuple (s := { s with heap := h₁, toks := tk }) R₁ hvs fun h' R' g' hv' => hok _ _ _ _ _ _ hK R' (g₁.trans g') hv'⟩
        rw [sizeLine_eq, ← hvs.length, List.length_map]; omega
      | Subscript a i p =>
        by_cases hsl : ∃ b c d q, i = .Slice b c d q
        · obtain ⟨lo, hi, st, q, rfl⟩ := hsl
          simp only [wpE] at hw
          obtain ⟨rfl, hw⟩ := hw
          refine Subscript_ (SE.andThen (ihE _ _ _ _ _ _ hw) ar R F er fun o σ₁ ρ₁ vo h₁ tk hf R₁ g₁ ho ar₁ F₁ => ?_)
          refine wpAny_Slice (part_sound (s := { s with heap := h₁, toks := tk }) (fun e m σ K => ihE env sc e m σ K) hf ar₁ R₁ F₁ (er.after g₁) fun l vl σ₂ ρ₂ h₂ tk₂ hf₂ pl R₂ g₂ ar₂ F₂ => ?_)
          refine part_sound (s := { s with heap := h₂, toks := tk₂ }) (fun e m σ K => ihE env sc e m σ K) hf₂ ar₂ R₂ F₂ ((er.after g₁).after g₂) fun u vu σ₃ ρ₃ h₃ tk₃ hf₃ pu R₃ g₃ ar₃ F₃ => ?_
          refine wpAny_pure (slice_sound (s := { s with heap := h₃, toks := tk₃ }) hf₃ R₃ ((ho.go R₁ g₂ .nowhere).go R₂ g₃ .nowhere) pl pu (hok.after ((g₁.trans g₂).trans g₃)))
        have hi : (∀ b c d q, i ≠ .Slice b c d q) ∧ wpE Γ n sc a m σ (thenE K fun o σ => wpE Γ n sc i m σ (thenE K fun j σ => itemW o j σ K)) := by
          cases i <;> simp only [wpE] at hw <;> first | exact ⟨fun _ _ _ _ q => (nomatch q), hw⟩ | exact absurd ⟨_, _, _, _, rfl⟩ hsl
        obtain ⟨hns, hw⟩ := hi
        refine Subscript_ (SE.andThen (ihE _ _ _ _ _ _ hw) ar R F er fun o σ₁ ρ₁ vo h₁ tk hf R₁ g₁ ho ar₁ F₁ => ?_)
        refine SE.andThen (s := { s with heap := h₁, toks := tk }) (ihE _ _ _ _ _ _ hf) ar₁ R₁ F₁ (er.after g₁) fun j σ₂ ρ₂ vj h₂ tk₂ hf₂ R₂ g₂ hj ar₂ F₂ => ?_
        exact item_sound hns hf₂ R₂ (ho.go R₁ g₂ .nowhere) hj (hok.after (g₁.trans g₂))
      | Call f args kws p =>
        simp only [wpE] at hw
        split at hw
        · rename_i x np
          obtain ⟨hsc, hco, T, hT, hst, hw⟩ := hw
          obtain ⟨fv, hval, hkp, hcall⟩ := ok.fn x T hT
          refine wpAny_Call_NameR (glob_sound cx R F hsc hval ?_)
          refine callWith_gen (args_noStar args hst) hkp (evalArgs_gen (args_noStar args hst) ?_)
          refine args_sound (fun e m σ K => ihE env sc e m σ K) args σ _ s ρ _ hst hw ar R F er fun vs σ₁ ρ₁ as h₁ tk hf R₁ g₁ hvs ar₁ F₁ => ⟨R₁.base, ?_⟩
          exact hcall vs σ₁ K hf A { s with heap := h₁, toks := tk } ρ₁ _ Q E ar₁.c R₁ (by simpa using hvs) (hok.after g₁) (er.after g₁).none
        · rename_i o name apos
          obtain ⟨⟨hsup, hline, hst, hfew⟩, hw⟩ := hw
          show wpAny _ A (attributeBase o name env (eval o env) >>= fun ov => standAt apos.atName >>= fun _ => methodCall o name apos p env ov (args.length + 0) (backTo p (starEach args env)) []) Q E s
          rw [noSuper_base hsup]
          refine wpAny_bind (SE.andThen (ihE _ _ _ _ _ _ hw) ar R F er fun ov σ₁ ρ₁ va h₁ tk hf R₁ g₁ ho ar₁ F₁ => wpAny_bind (wpAny_standAt ?_))
          obtain ⟨ty, T, hty, hT, hf⟩ := hf
          obtain ⟨id, pa, slot, htyp, hcall⟩ := ok.meth ty name T hT
          obtain ⟨htis, hdict⟩ := methTy_is (s := { s with heap := h₁, toks := tk }) hty R₁ ho
          refine meth_call pa slot htyp hline (args_noStar args hst) (by omega) htis hdict ?_
          refine callWith_gen (args_noStar args hst) Kp.builtin (evalArgs_gen (args_noStar args hst) ?_)
          refine args_sound (fun e m σ K => ihE env sc e m σ K) args σ₁ _ { s with heap := h₁, toks := tk } ρ₁ _ hst hf ar₁ R₁ F₁ (er.after g₁) fun vs σ₂ ρ₂ as h₂ tk₂ hf₂ R₂ g₂ hvs ar₂ F₂ => ⟨R₂.base, ?_⟩
          exact hcall (ov :: vs) σ₂ K hf₂ A { s with heap := h₂, toks := tk₂ } ρ₂ _ Q E ar₂.c R₂ (.cons (ho.go R₁ g₂ .nowhere) hvs) (hok.after (g₁.trans g₂)) ((er.after g₁).after g₂).none
        · exact hw.elim
      | ListComp elt gens scope p =>
        simp only [wpE] at hw
        split at hw
        · rename_i x px iter ifs a
          obtain ⟨rfl, hset, hco, hw⟩ := hw
          rw [eval_ListComp]
          refine comp_core (use := none) ihE ihT (compOk_of hco) hset hw ar R F er fun acc σ' ρ' C h' tk mC hK R' g' hns hC hsep hB => ⟨mC, hns, fun h'' hsb => ?_⟩
          have ex := Ext1.ofSame hsb
          have hn : ∀ o, h'.get? C = some o → ¬ Still o := fun o e => by
            obtain ⟨o', es, ep, e', d, _⟩ := hns
            rw [e] at e'; cases e'; exact Still.notNs d
          refine hok _ _ ρ' _ h'' tk hK (R'.but ex hn hsep hB) (g'.ext1 ex hC) (.ref (by simp))
        · exact hw.elim
      | _ => simp only [wpE] at hw
    · intro env sc e m σ K f hw
      by_cases h1 : ∃ x p, e = .UnaryOp .Not x p
      · obtain ⟨x, p, rfl⟩ := h1
        simp only [wpT] at hw
        intro A s ρ Q E ar R F h er
        exact wpAny_isTrue_Not (ihT _ _ _ _ _ _ _ hw A s ρ _ E ar R F (fun b σ₁ ρ₁ h₁ tk hf R₁ g₁ ar₁ F₁ => h (!b) σ₁ ρ₁ h₁ tk hf R₁ g₁ ar₁ F₁) er)
      · by_cases h2 : ∃ o v p, e = .BoolOp o v p
        · obtain ⟨o, v, p, rfl⟩ := h2
          simp only [wpT] at hw
          intro A s ρ Q E ar R F h er
          exact wpAny_isTrue_BoolOp (all_sound (fun e m σ K f => ihT env sc e m σ K f) v σ s ρ hw ar R F er h)
        · by_cases h3 : ∃ a b c p, e = .IfExp a b c p
          · obtain ⟨a, b, c, p, rfl⟩ := h3
            simp only [wpT] at hw
          · by_cases h4 : ∃ a b c p, e = .Compare a b c p
            · obtain ⟨l, ops, rs, p, rfl⟩ := h4
              simp only [wpT] at hw
              intro A s ρ Q E ar R F h er
              show wpAny _ A (eval l env >>= fun a => testChain p a ops (markedEach ops rs (evalEach rs env))) Q E s
              refine wpAny_bind (SE.andThen (ihE _ _ _ _ _ _ hw) ar R F er fun a σ₁ ρ₁ va h₁ tk hf R₁ g₁ ha ar₁ F₁ => ?_)
              exact tests_sound (fun e m σ K => ihE env sc e m σ K) ops rs a va σ₁ { s with heap := h₁, toks := tk } ρ₁ hf ar₁ R₁ F₁ ha (er.after g₁) fun r σ₂ ρ₂ h₂ tk₂ hK R₂ g₂ ar₂ F₂ => h r σ₂ ρ₂ h₂ tk₂ hK R₂ (g₁.trans g₂) ar₂ F₂
            · have n1 : ∀ x p, e ≠ .UnaryOp .Not x p := fun x p q => h1 ⟨x, p, q⟩
              have n2 : ∀ o v p, e ≠ .BoolOp o v p := fun o v p q => h2 ⟨o, v, p, q⟩
              have n3 : ∀ a b c p, e ≠ .IfExp a b c p := fun a b c p q => h3 ⟨a, b, c, p, q⟩
              have n4 : ∀ a b c p, e ≠ .Compare a b c p := fun a b c p q => h4 ⟨a, b, c, p, q⟩
              refine ST.ofE n1 n2 n3 n4 (ihE _ _ _ _ _ _ ?_)
              unfold wpT at hw
              split at hw
              · exact absurd rfl (n1 _ _)
              · exact absurd rfl (n2 _ _ _)
              · exact absurd rfl (n3 _ _ _ _)
              · exact absurd rfl (n4 _ _ _ _)
              · exact hw
end
end Mine

set_option Elab.async false
set_option autoImplicit false
set_option linter.unusedVariables false
namespace Mine
open PySem PySem.Spec PySem.Calls PyProof.Rows

section
variable {X : Cx} {k : Nat} {Γ : Sig} {env : Env} {sc : Kinds} {m : Loc} {σ : Store} {K : OutS → Prop} {A : Around} {s : Shared} {ρ : Nat → Addr} {E : Value → Shared → Prop} {Q : Flow → Shared → Prop}

noncomputable def OkN (X : Cx) (env : Env) (sc : Kinds) (σ : Store) (ρ : Nat → Addr) (s : Shared) (K : OutS → Prop) (Q : Flow → Shared → Prop) : Prop :=
  ∀ m' σ' ρ' h' tk, K (.next m' σ') → Rep X ρ' σ' h' → Go (Wr env) σ ρ s.heap σ' ρ' h' → Frm X env sc m' σ'.length ρ' h' → Q .next { s with heap := h', toks := tk }
noncomputable def OkR (X : Cx) (env : Env) (σ : Store) (ρ : Nat → Addr) (s : Shared) (K : OutS → Prop) (Q : Flow → Shared → Prop) : Prop :=
  ∀ v σ' ρ' a h' tk, K (.ret v σ') → Rep X ρ' σ' h' → Go (Wr env) σ ρ s.heap σ' ρ' h' → Has X σ'.length ρ' h' v a → Q (.ret a) { s with heap := h', toks := tk }
noncomputable def ErS (X : Cx) (env : Env) (sc : Kinds) (σ : Store) (ρ : Nat → Addr) (s : Shared) (K : OutS → Prop) (E : Value → Shared → Prop) : Prop :=
  ∀ c m' σ' ρ' e h' tk, K (.exn c m' σ') → Rep X ρ' σ' h' → Go (Wr env) σ ρ s.heap σ' ρ' h' → Frm X env sc m' σ'.length ρ' h' → Flies X c env.frame s.heap.objs.size e h' → E (.ref e) { s with heap := h', toks := tk }

theorem OkN.after {σ₁ : Store} {ρ₁ : Nat → Addr} {h₁ : Heap} {tk : Nat} (x : OkN X env sc σ ρ s K Q) (g : Go (Wr env) σ ρ s.heap σ₁ ρ₁ h₁) : OkN X env sc σ₁ ρ₁ { s with heap := h₁, toks := tk } K Q :=
  fun m' σ' ρ' h' tk' hK R' g' F' => x m' σ' ρ' h' tk' hK R' (g.trans g') F'
theorem OkR.after {σ₁ : Store} {ρ₁ : Nat → Addr} {h₁ : Heap} {tk : Nat} (x : OkR X env σ ρ s K Q) (g : Go (Wr env) σ ρ s.heap σ₁ ρ₁ h₁) : OkR X env σ₁ ρ₁ { s with heap := h₁, toks := tk } K Q :=
  fun v σ' ρ' a h' tk' hK R' g' hv => x v σ' ρ' a h' tk' hK R' (g.trans g') hv
theorem ErS.after {σ₁ : Store} {ρ₁ : Nat → Addr} {h₁ : Heap} {tk : Nat} (x : ErS X env sc σ ρ s K E) (g : Go (Wr env) σ ρ s.heap σ₁ ρ₁ h₁) : ErS X env sc σ₁ ρ₁ { s with heap := h₁, toks := tk } K E :=
  fun c m' σ' ρ' e h' tk' hK R' g' F' fl => x c m' σ' ρ' e h' tk' hK R' (g.trans g') F' (fl.sz g.size)
theorem Go.up {σ₁ : Store} {ρ₁ : Nat → Addr} {h₁ h : Heap} {W : Addr → Prop} (g : Go Nowhere σ ρ h σ₁ ρ₁ h₁) : Go W σ ρ h σ₁ ρ₁ h₁ := g.weaken fun _ _ _ q => q.elim

/-- an expression's exception is the statement's -/
theorem ErS.lift (x : ErS X env sc σ ρ s K E) (R : Rep X ρ σ s.heap) (F : Frm X env sc m σ.length ρ s.heap) : ErE X env.frame σ ρ s (liftS K m) E :=
  fun c σ' ρ' e h' tk' hK R' g' fl => x c m σ' ρ' e h' tk' hK R' g'.up (F.go R g') fl

theorem SS.seq {sv : Sv} (hsv : ∀ st m σ K, sv st m σ K → SS X k env sc (exec st env) m σ K) : ∀ (sts : List Stmt) (m : Loc) (σ : Store) (K : OutS → Prop), wpSs sv sts m σ K → SS X k env sc (execs sts env) m σ K
  | [], m, σ, K, hw => fun A s ρ Q E ar R F hn hr er => wpAny_execs_nil (hn m σ ρ s.heap s.toks hw R (.refl ..) F)
  | st :: r, m, σ, K, hw => fun A s ρ Q E ar R F hn hr er => by
    unfold wpSs at hw
    refine wpAny_execs_cons (hsv _ _ _ _ hw A s ρ _ E ar R F (fun m₁ σ₁ ρ₁ h₁ tk hf R₁ g₁ F₁ => ?_) (fun v σ₁ ρ₁ a h₁ tk hf R₁ g₁ hv => hr v σ₁ ρ₁ a h₁ tk hf R₁ g₁ hv) er)
    exact SS.seq hsv r m₁ σ₁ K hf A { s with heap := h₁, toks := tk } ρ₁ Q E (ar.go g₁) R₁ F₁ (OkN.after (σ := σ) (ρ := ρ) (s := s) hn g₁) (OkR.after (σ := σ) (ρ := ρ) (s := s) hr g₁) (ErS.after (σ := σ) (ρ := ρ) (s := s) er g₁)

theorem swaps_no {v : Expr} {t : Option Expr} {l : Nat} (h : (∀ a b c d, v ≠ .ListComp a b c d) ∧ (∀ a b c d, v ≠ .SetComp a b c d) ∧ (∀ a b c d e, v ≠ .DictComp a b c d e)) : swapsWith v t l env = pure false := by
  unfold swapsWith
  cases v <;> first | rfl | exact absurd rfl (h.1 _ _ _ _) | exact absurd rfl (h.2.1 _ _ _ _) | exact absurd rfl (h.2.2 _ _ _ _ _)

theorem swaps_noComp {v : Expr} {t : Option Expr} {l : Nat} (h : noComp v = true) : swapsWith v t l env = pure false :=
  swaps_no ⟨fun _ _ _ _ q => by subst q; simp [noComp] at h, fun _ _ _ _ q => by subst q; simp [noComp] at h, fun _ _ _ _ _ q => by subst q; simp [noComp] at h⟩

theorem swaps_comp {elt : Expr} {gens : List Comprehension} {scope : Scope} {p p' : Pos} {x : Str} {l : Nat} : ∃ b, swapsWith (.ListComp elt gens scope p) (some (.Name x p')) l env = pure b ∧ (b = true → env.kindOf x = some .local) := by
  refine ⟨env.blockKind == .function && env.kindOf x == some .local && p'.line == (Expr.ListComp elt gens scope p).pos.line && !(scope.names.any fun (n, k) => n == x && (k == .local || k == .cell)), rfl, fun h => ?_⟩
  simp only [Bool.and_eq_true, beq_iff_eq] at h
  exact h.1.1.2

theorem comp_shape {v : Expr} {n : Nat} {K : OutE → Prop} (hw : wpE Γ n sc v m σ K) : (∀ a b c d, v ≠ .SetComp a b c d) ∧ (∀ a b c d e, v ≠ .DictComp a b c d e) := by
  cases n with
  | zero => simp only [wpE] at hw
  | succ n => constructor <;> (intros; rintro rfl; simp only [wpE] at hw)

theorem assign_sound (cx : CxOk X) (ok : SigOk X k Γ) {n : Nat} {x : Str} {p p' : Pos} {v : Expr} (hb : bindable sc x) (hw : wpE Γ n sc v m σ (thenE (liftS K m) fun v σ => K (.next (upd m x v) σ))) :
    SS X k env sc (exec (.Assign [.Name x p'] v p) env) m σ K := by
  intro A s ρ Q E ar R F hn hr er
  have er' : ErE X env.frame σ ρ s (liftS K m) E := ErS.lift (sc := sc) er R F
  have plain : swapsWith v (some (.Name x p')) p.line env = pure false → wpAny (model X.prog X.w) A (exec (.Assign [.Name x p'] v p) env) Q E s := by
    intro hsw
    refine wpAny_Assign_Name (SE.andThen ((sound cx ok n).1 env sc v m σ _ hw) ar R F er' fun w σ₁ ρ₁ a h₁ tk hf R₁ g₁ hv ar₁ F₁ => ?_) hsw
    exact store_sound (s := { s with heap := h₁, toks := tk }) R₁ F₁ hb hv fun h₂ tk₂ R₂ g₂ F₂ => hn _ _ _ _ _ hf R₂ (g₁.up.trans g₂) F₂
  obtain ⟨n2, n3⟩ := comp_shape hw
  by_cases hl : ∃ a b c d, v = .ListComp a b c d
  · obtain ⟨elt, gens, scope, q, rfl⟩ := hl
    obtain ⟨b, hsw, hloc⟩ := swaps_comp (env := env) (elt := elt) (gens := gens) (scope := scope) (p := q) (p' := p') (x := x) (l := p.line)
    cases b with
    | false => exact plain hsw
    | true =>
      cases n with
      | zero => simp only [wpE] at hw
      | succ n =>
        simp only [wpE] at hw
        split at hw
        · rename_i y py iter ifs a
          obtain ⟨rfl, hset, hco, hw⟩ := hw
          rw [exec_Assign_Name_used _ _ _ _ hsw]
          refine wpAny_bind (wpAny_standAt (wpAny_bind ?_))
          show wpAny _ A (do let _ ← comprehension (.ListComp elt [⟨.Name y py, iter, ifs, 0⟩] scope q) scope env _ (newList []) false (eval iter env) (some (assign (.Name x p') env))) _ _ s
          refine wpAny_bind (wpAny_mono (comp_core (use := some (assign (.Name x p') env)) (Q := fun _ s' => Q .next s') (sound cx ok n).1 (sound cx ok n).2 (compOk_of hco) hset hw ar R F er' ?_) (fun _ s' hq => wpAny_pure (wpAny_pure hq)) fun _ _ e => e)
          intro acc σ' ρ' C h' tk mC hK R' g' hns hC hsep hB
          have F' := F.go R g'
          show wpAny _ A (assign (.Name x p') env (.ref (ρ' σ'.length))) _ _ _
          refine wpAny_assign_Name (store_sound (s := { s with heap := h', toks := tk }) R' F' hb (.ref (by simp)) fun h₂ tk₂ R₂ g₂ F₂ => ?_)
          have hCL : C ≠ env.locals := fun q => by
            obtain ⟨_, ⟨o, es, ep, e, _⟩, _⟩ := F.ns
            exact absurd (q ▸ Heap.lt_size e) (Nat.not_lt.mpr hC)
          have hCW : ¬ Wr env C := by
            rintro (q | ⟨z, hz⟩)
            · exact hCL q
            · obtain ⟨ov, o, e, _⟩ := F.isCells z C hz
              exact absurd (Heap.lt_size e) (Nat.not_lt.mpr hC)
          obtain ⟨oC, es, ep, eC, dC, rC⟩ := hns
          obtain ⟨sl, eC2, _⟩ := g₂.keep C oC eC hCW fun i hi q => hsep i hi q.symm
          refine ⟨mC, ⟨_, es, ep, eC2, dC, rC⟩, fun h₃ hsb => ?_⟩
          have ex := Ext1.ofSame hsb
          have hnS : ∀ o, h₂.get? C = some o → ¬ Still o := fun o e => by rw [eC2] at e; cases e; exact Still.notNs dC
          have st := ex.still' hnS
          refine hn _ _ ρ' h₃ tk₂ hK (R₂.but ex hnS hsep hB) ((g'.up.trans g₂).ext1 ex hC) ?_
          have hv' : ∀ {v a}, Has X (σ' ++ [Cell.lst acc]).length ρ' h₂ v a → Has X (σ' ++ [Cell.lst acc]).length ρ' h₃ v a := fun q => q.mono (Nat.le_refl _) (fun _ _ => rfl) st
          have hc : ∀ z c ov, env.cells.lookup z = some c → h₂.IsCell c ov → h₃.IsCell c ov := fun z c ov hz ⟨o', e', d⟩ => ⟨o', ex.keep _ _ (fun q => hCW (.inr ⟨z, q ▸ hz⟩)) e', d⟩
          refine { F₂ with ns := ?_, cells := ?_, isCells := ?_ }
          · obtain ⟨mm, ⟨o', es', ep', e', d', r'⟩, hm⟩ := F₂.ns
            exact ⟨mm, ⟨o', es', ep', ex.keep _ _ (Ne.symm hCL) e', d', r'⟩, fun y v h1 h2 => let ⟨a, h3, h4⟩ := hm y v h1 h2; ⟨a, h3, hv' h4⟩⟩
          · intro y hy
            obtain ⟨c, ov, h1, h2, h3⟩ := F₂.cells y hy
            exact ⟨c, ov, h1, hc y c ov h1 h2, fun v q => let ⟨a, h4, h5⟩ := h3 v q; ⟨a, h4, hv' h5⟩⟩
          · intro y c hy
            obtain ⟨ov, h1⟩ := F₂.isCells y c hy
            exact ⟨ov, hc y c ov hy h1⟩
        · exact hw.elim
  · exact plain (swaps_no ⟨fun a b c d q => hl ⟨a, b, c, d, q⟩, n2, n3⟩)

theorem for_sound (cx : CxOk X) (ok : SigOk X k Γ) {n : Nat} {x : Str} {p p' : Pos} {it : Expr} {body : List Stmt} (hsv : ∀ st m σ K, wpS Γ n sc st m σ K → SS X k env sc (exec st env) m σ K) (hb : bindable sc x) (hset : noSet it = true)
    (hw : wpE Γ n sc it m σ (thenE (liftS K m) fun src σ => ∃ (N : Nat) (I : Nat → Loc → Store → Prop), I 0 m σ ∧
          (∀ k m σ, k < N → I k m σ → ∃ v, srcNext σ src k = some (some v) ∧ wpSs (wpS Γ n sc) body (upd m x v) σ (loopN K (I (k + 1)))) ∧
          (∀ m σ, I N m σ → srcNext σ src N = some none ∧ K (.next m σ)))) :
    SS X k env sc (exec (.For (.Name x p') it body [] p) env) m σ K := by
  intro A s ρ Q E ar R F hn hr er
  have er' : ErE X env.frame σ ρ s (liftS K m) E := ErS.lift (sc := sc) er R F
  refine wpAny_For (SE.andThen ((sound cx ok n).1 env sc it m σ _ hw) ar R F er' fun src σ₁ ρ₁ a h₁ tk₁ hf R₁ g₁ hsrc ar₁ F₁ => ?_) (fun v => foldedSet_no hset v)
  obtain ⟨N, I, h0, hstep, hend⟩ := hf
  have hIs : IsSrc src := by
    by_cases hN0 : 0 < N
    · obtain ⟨v, hv, _⟩ := hstep 0 m σ₁ hN0 h0
      exact isSrc_of hv
    · have : N = 0 := by omega
      subst this
      exact isSrc_of (hend m σ₁ h0).1
  have hso := srcOk_of hsrc
  refine iter_sound (s := { s with heap := h₁, toks := tk₁ }) hIs R₁ hsrc fun h₂ it₂ hpush => ?_
  obtain ⟨o₂, rfl⟩ := hpush
  dsimp only at it₂ ⊢
  generalize hIa : h₁.objs.size = Ia at *
  obtain ⟨R₂, g₂⟩ := R₁.push (W := Nowhere) o₂
  have hbase : X.B.get? Ia = none := by
    cases e : X.B.get? Ia with
    | none => rfl
    | some o => exact absurd (Heap.lt_size (R₁.base _ _ e)) (by rw [hIa]; exact Nat.lt_irrefl _)
  refine codeAny_forLoop (fun c s' => ∃ kk m' σ' ρ' h' tk, s' = { s with heap := h', toks := tk } ∧ kk ≤ N ∧ c = N + 1 - kk ∧ I kk m' σ' ∧ Rep X ρ' σ' h' ∧ Go (Wr env) σ₁ ρ₁ h₁ σ' ρ' h' ∧
      Frm X env sc m' σ'.length ρ' h' ∧ IterAt ρ' h' Ia kk src ∧ Ar X k A env h') ?_ (N + 1) ⟨0, m, σ₁, ρ₁, _, tk₁, rfl, Nat.zero_le _, rfl, h0, R₂, g₂.up, F₁.go R₁ g₂, it₂, ar₁.go g₂⟩
  rintro c s' ⟨kk, m', σ', ρ', h', tk, rfl, hkk, rfl, hI, R', g', F', it', ar'⟩
  have hso' : SrcOk σ'.length src := by
    cases src <;> first | exact trivial | exact Nat.lt_of_lt_of_le hso g'.len
  obtain ⟨oI, eI, hoI⟩ := it'.obj
  by_cases hlt : kk < N
  · obtain ⟨v, hnx, hbody⟩ := hstep kk m' σ' hlt hI
    refine next_sound (s := { s with heap := h', toks := tk }) ar'.handled R' it' hso' hnx ?_ ?_
    · rintro v' a h₄ tk₄ hv' hhas it₄ ex
      cases hv'
      have R₄ := R'.ext1 ex eI hoI hbase
      have F₄ := F'.ext1 ex eI hoI
      have ar₄ := ar'.ext1 ex eI hoI
      have g₄ := g'.ext1 ex (Nat.le_of_eq hIa)
      refine wpAny_assign_Name (store_sound (s := { s with heap := h₄, toks := tk₄ }) R₄ F₄ hb hhas fun h₅ tk₅ R₅ g₅ F₅ => ?_)
      have G₅ := g₄.trans g₅
      have it₅ := it₄.go hso' R₄ g₅ F₄.wok
      refine SS.seq hsv body _ _ _ hbody A { s with heap := h₅, toks := tk₅ } ρ' _ _ (ar₄.go g₅) R₅ F₅ (fun m₆ σ₆ ρ₆ h₆ tk₆ hI₆ R₆ g₆ F₆ => ?_) (fun w σ₆ ρ₆ a₆ h₆ tk₆ hK R₆ g₆ hw₆ => ?_) fun _ _ _ _ _ _ _ hK => hK.elim
      · exact ⟨N + 1 - (kk + 1), by omega, kk + 1, m₆, σ₆, ρ₆, h₆, tk₆, rfl, hlt, rfl, hI₆, R₆, G₅.trans g₆, F₆, it₅.go hso' R₅ g₆ F₅.wok, (ar₄.go g₅).go g₆⟩
      · exact hr w σ₆ ρ₆ a₆ h₆ tk₆ hK R₆ (g₁.up.trans (G₅.trans g₆)) hw₆
    · intro h₄ tk₄ hr; cases hr
  · have hkN : kk = N := by omega
    subst hkN
    obtain ⟨hnx, hK⟩ := hend m' σ' hI
    refine next_sound (s := { s with heap := h', toks := tk }) ar'.handled R' it' hso' hnx (fun _ _ _ _ hr => by cases hr) fun h₄ tk₄ _ ex => ?_
    refine wpAny_execs_nil ?_
    exact hn m' σ' ρ' h₄ tk₄ hK (R'.ext1 ex eI hoI hbase) (g₁.up.trans (g'.ext1 ex (Nat.le_of_eq hIa))) (F'.ext1 ex eI hoI)

theorem while_sound (cx : CxOk X) (ok : SigOk X k Γ) {n : Nat} {p : Pos} {t : Expr} {body : List Stmt} (hsv : ∀ st m σ K, wpS Γ n sc st m σ K → SS X k env sc (exec st env) m σ K) {I : Nat → Loc → Store → Prop} (h0 : ∃ N, I N m σ)
    (hstep : ∀ N m σ, I N m σ → wpT Γ n sc t m σ (fun _ => False) fun c σ => (c = true → wpSs (wpS Γ n sc) body m σ (loopN K fun m σ => ∃ N', N' < N ∧ I N' m σ)) ∧ (c = false → K (.next m σ))) :
    SS X k env sc (exec (.While t body [] p) env) m σ K := by
  intro A s ρ Q E ar R F hn hr er
  obtain ⟨N, h0⟩ := h0
  refine wpAny_While (codeAny_whileLoop (fun c s' => ∃ m' σ' ρ' h' tk, s' = { s with heap := h', toks := tk } ∧ I c m' σ' ∧ Rep X ρ' σ' h' ∧ Go (Wr env) σ ρ s.heap σ' ρ' h' ∧ Frm X env sc m' σ'.length ρ' h' ∧ Ar X k A env h') ?_ N
    ⟨m, σ, ρ, s.heap, s.toks, rfl, h0, R, .refl .., F, ar⟩)
  rintro c s' ⟨m', σ', ρ', h', tk, rfl, hI, R', g', F', ar'⟩
  refine (sound cx ok n).2 env sc t m' σ' _ _ (hstep c m' σ' hI) A { s with heap := h', toks := tk } ρ' _ _ ar' R' F' (fun b σ₁ ρ₁ h₁ tk₁ hf R₁ g₁ ar₁ F₁ => ?_) fun _ _ _ _ _ _ hK => hK.elim
  cases b with
  | true =>
    simp only [if_true]
    refine SS.seq hsv body _ _ _ (hf.1 rfl) A { s with heap := h₁, toks := tk₁ } ρ₁ _ _ ar₁ R₁ F₁ (fun m₂ σ₂ ρ₂ h₂ tk₂ hI₂ R₂ g₂ F₂ => ?_) (fun w σ₂ ρ₂ a₂ h₂ tk₂ hK R₂ g₂ hw₂ => ?_) fun _ _ _ _ _ _ _ hK => hK.elim
    · obtain ⟨N', hlt, hI'⟩ := hI₂
      exact ⟨N', hlt, m₂, σ₂, ρ₂, h₂, tk₂, rfl, hI', R₂, (g'.trans g₁.up).trans g₂, F₂, ar₁.go g₂⟩
    · exact hr w σ₂ ρ₂ a₂ h₂ tk₂ hK R₂ ((g'.trans g₁.up).trans g₂) hw₂
  | false =>
    simp only [Bool.false_eq_true, if_false]
    exact wpAny_execs_nil (hn m' σ₁ ρ₁ h₁ tk₁ (hf.2 rfl) R₁ (g'.trans g₁.up) F₁)

theorem soundS (cx : CxOk X) (ok : SigOk X k Γ) : ∀ n env sc st m σ K, wpS Γ n sc st m σ K → SS X k env sc (exec st env) m σ K := by
  intro n
  induction n with
  | zero => intro env sc st m σ K hw; unfold wpS at hw; exact hw.elim
  | succ n ih =>
    intro env sc st m σ K hw
    have ihS : ∀ sts m σ K, wpSs (wpS Γ n sc) sts m σ K → SS X k env sc (execs sts env) m σ K := SS.seq (fun st m σ K => ih env sc st m σ K)
    cases st with
    | Pass p => simp only [wpS] at hw; exact fun A s ρ Q E ar R F hn hr er => wpAny_Pass (hn m σ ρ s.heap s.toks hw R (.refl ..) F)
    | Return v p =>
      simp only [wpS] at hw
      cases v with
      | none => exact fun A s ρ Q E ar R F hn hr er => wpAny_Return_none (hr _ σ ρ _ s.heap s.toks hw R (.refl ..) .ofNone)
      | some e =>
        intro A s ρ Q E ar R F hn hr er
        refine wpAny_Return_some ((sound cx ok n).1 env sc e m σ _ hw A s ρ _ E ar R F (fun v σ₁ ρ₁ a h₁ tk hf R₁ g₁ hv => hr v σ₁ ρ₁ a h₁ tk hf R₁ g₁.up hv) (ErS.lift (sc := sc) er R F))
    | Assign ts v p =>
      simp only [wpS] at hw
      split at hw
      · exact assign_sound cx ok hw.1 hw.2
      · obtain ⟨hnc, hns, hw⟩ := hw
        intro A s ρ Q E ar R F hn hr er
        have er' : ErE X env.frame σ ρ s (liftS K m) E := ErS.lift (sc := sc) er R F
        refine wpAny_Assign_Subscript (SE.andThen ((sound cx ok n).1 env sc _ m σ _ hw) ar R F er' fun w σ₁ ρ₁ a h₁ tk hf R₁ g₁ hv ar₁ F₁ => ?_) (swaps_noComp hnc)
        refine SE.andThen (s := { s with heap := h₁, toks := tk }) ((sound cx ok n).1 env sc _ m σ₁ _ hf) ar₁ R₁ F₁ (er'.after g₁) fun ov σ₂ ρ₂ vo h₂ tk₂ hf₂ R₂ g₂ ho ar₂ F₂ => ?_
        refine SE.andThen (s := { s with heap := h₂, toks := tk₂ }) ((sound cx ok n).1 env sc _ m σ₂ _ hf₂) ar₂ R₂ F₂ ((er'.after g₁).after g₂) fun iv σ₃ ρ₃ vi h₃ tk₃ hf₃ R₃ g₃ hi ar₃ F₃ => ?_
        refine set_sound (s := { s with heap := h₃, toks := tk₃ }) hf₃ R₃ (ho.go R₂ g₃ .nowhere) hi ((hv.go R₁ g₂ .nowhere).go R₂ g₃ .nowhere) fun σ₄ h₄ hK R₄ g₄ => ?_
        exact hn m σ₄ ρ₃ h₄ tk₃ hK R₄ (((g₁.trans g₂).trans g₃).trans g₄).up (F₃.go R₃ g₄)
      · exact hw.elim
    | Expr e p =>
      simp only [wpS] at hw
      intro A s ρ Q E ar R F hn hr er
      refine wpAny_Expr_any (SE.andThen ((sound cx ok n).1 env sc _ m σ _ hw.2) ar R F (ErS.lift (sc := sc) er R F) fun w σ₁ ρ₁ a h₁ tk hf R₁ g₁ hv ar₁ F₁ => hn m σ₁ ρ₁ h₁ tk hf R₁ g₁.up F₁) ?_ (swaps_noComp hw.1)
      unfold interactive; rw [F.kind]; rfl
    | If t b e p =>
      simp only [wpS] at hw
      intro A s ρ Q E ar R F hn hr er
      refine wpAny_If ((sound cx ok n).2 env sc t m σ _ _ hw A s ρ _ E ar R F (fun c σ₁ ρ₁ h₁ tk hf R₁ g₁ ar₁ F₁ => ?_) (ErS.lift (sc := sc) er R F))
      cases c with
      | true => exact ihS _ _ _ _ (hf.1 rfl) A { s with heap := h₁, toks := tk } ρ₁ Q E ar₁ R₁ F₁ (OkN.after (σ := σ) (ρ := ρ) (s := s) hn g₁.up) (OkR.after (σ := σ) (ρ := ρ) (s := s) hr g₁.up) (ErS.after (σ := σ) (ρ := ρ) (s := s) er g₁.up)
      | false => exact ihS _ _ _ _ (hf.2 rfl) A { s with heap := h₁, toks := tk } ρ₁ Q E ar₁ R₁ F₁ (OkN.after (σ := σ) (ρ := ρ) (s := s) hn g₁.up) (OkR.after (σ := σ) (ρ := ρ) (s := s) hr g₁.up) (ErS.after (σ := σ) (ρ := ρ) (s := s) er g₁.up)
    | For t it body orelse p =>
      simp only [wpS] at hw
      split at hw
      · exact for_sound cx ok (fun st m σ K => ih env sc st m σ K) hw.1 hw.2.1 hw.2.2
      · exact hw.elim
    | While t body orelse p =>
      simp only [wpS] at hw
      split at hw
      · obtain ⟨I, h0, hstep⟩ := hw
        exact while_sound cx ok (fun st m σ K => ih env sc st m σ K) h0 hstep
      · exact hw.elim
    | _ => simp only [wpS] at hw
end
end Mine

set_option Elab.async false
set_option autoImplicit false
set_option linter.unusedVariables false
namespace Mine
open PySem PySem.Spec PySem.Calls PyProof.Rows

theorem zip_lookup {names : List Str} {vals : List Value} (hlen : vals.length = names.length) {n : Str} (hn : n ∈ names) : ((names.zip vals).lookup n).isSome = true := by
  induction names generalizing vals with
  | nil => simp at hn
  | cons a r ih =>
    cases vals with
    | nil => simp at hlen
    | cons v vs =>
      simp only [List.zip_cons_cons, List.lookup_cons]
      cases hb : n == a with
      | true => rfl
      | false =>
        have : n ∈ r := by
          rcases List.mem_cons.mp hn with rfl | h
          · simp at hb
          · exact h
        simpa using ih (by simpa using hlen) this

theorem zip_filterMap {names : List Str} (hnd : names.Nodup) {vals : List Value} (hlen : vals.length = names.length) (pre : List (Str × Value)) (hpre : ∀ n ∈ names, pre.lookup n = none) :
    names.filterMap (fun n => ((pre ++ names.zip vals).lookup n).map (n, ·)) = names.zip vals := by
  induction names generalizing vals pre with
  | nil => simp
  | cons a r ih =>
    cases vals with
    | nil => simp at hlen
    | cons v vs =>
      obtain ⟨h1, h2⟩ := List.nodup_cons.mp hnd
      have e1 : (pre ++ (a, v) :: r.zip vs).lookup a = some v := by
        rw [List.lookup_append, hpre a List.mem_cons_self]
        simp
      simp only [List.zip_cons_cons, List.filterMap_cons, e1, Option.map_some]
      congr 1
      have := ih h2 (vals := vs) (by simpa using hlen) (pre ++ [(a, v)]) (fun n hn => by
        rw [List.lookup_append, hpre n (List.mem_cons_of_mem _ hn)]
        have : n ≠ a := fun q => h1 (q ▸ hn)
        have hb : (n == a) = false := by simpa using this
        simp [List.lookup_cons, hb])
      simpa using this

theorem bind_plain {fd : FuncData} {names : List Str} {vals : List Value} (h1 : fd.params.posonlyargs = []) (h2 : fd.params.args.map (·.arg) = names) (h3 : fd.params.vararg = none) (h4 : fd.params.kwonlyargs = []) (h5 : fd.params.kwarg = none)
    (h6 : fd.defaults = .none) (hnd : names.Nodup) (hlen : vals.length = names.length) : bindArgs fd ⟨vals, []⟩ = pure (names.zip vals) := by
  have e0 : seqItems? Value.none = pure none := rfl
  have em : (names.filter fun n => ((names.zip vals).lookup n).isNone) = [] := by
    rw [List.filter_eq_nil_iff]
    intro n hn
    have := zip_lookup hlen hn
    simp only [Option.isNone_iff_eq_none]
    intro q
    rw [q] at this; cases this
  have ef := zip_filterMap hnd hlen [] (by simp)
  simp only [List.nil_append] at ef
  unfold bindArgs
  simp only [h1, h2, h3, h4, h5, h6, e0, List.map_nil, List.nil_append, List.append_nil, List.forIn_nil, pure_bind, Option.getD_none, List.length_nil, Nat.zero_sub, List.drop_nil, Nat.sub_zero, List.take_length, em, List.isEmpty_nil,
    Bool.not_true, Bool.false_eq_true, if_false, List.drop_length, List.zip_nil_left, ef, Option.isNone_none, Bool.and_true, gt_iff_lt, hlen, Nat.lt_irrefl, decide_false]

/-! forgetting what a call has made and dropped; names of cells anew -/
noncomputable def RefLt (n : Nat) : V → Prop
  | .ref i => i < n
  | .zip i j => i < n ∧ j < n
  | _ => True

noncomputable def RenV (π : Nat → Nat) (n : Nat) : V → V → Prop
  | .ref i, w => i < n ∧ w = .ref (π i)
  | .zip _ _, _ => False
  | v, w => w = v

inductive RenAll (π : Nat → Nat) (n : Nat) : List V → List V → Prop
  | nil : RenAll π n [] []
  | cons {v w vs ws} : RenV π n v w → RenAll π n vs ws → RenAll π n (v :: vs) (w :: ws)

noncomputable def RenC (π : Nat → Nat) (n : Nat) : Cell → Cell → Prop
  | .lst xs, .lst ys => RenAll π n xs ys
  | _, _ => False

structure Emb (σ σ₁ σ' : Store) (v₁ v : V) (π : Nat → Nat) : Prop where
  old : ∀ i, i < σ.length → π i = i
  len : σ.length ≤ σ'.length
  lt : ∀ i, i < σ'.length → π i < σ₁.length
  inj : ∀ i j, i < σ'.length → j < σ'.length → π i = π j → i = j
  cell : ∀ i, i < σ'.length → (i < σ.length ∧ σ'[i]? = σ[i]? ∧ σ₁[i]? = σ[i]?) ∨ (∃ c₁ c', σ₁[π i]? = some c₁ ∧ σ'[i]? = some c' ∧ RenC π σ'.length c' c₁)
  val : RenV π σ'.length v v₁

section
variable {X : Cx} {σ σ₁ σ' : Store} {ρ ρ₁ : Nat → Addr} {h h₁ : Heap} {v₁ v : V} {π : Nat → Nat} {a : Value}

theorem Has.bound {n : Nat} (x : Has X n ρ h v a) : RefLt n v := by
  cases x <;> first | exact trivial | assumption
theorem HasAll.bound {n : Nat} {vs : List V} {as : List Value} (x : HasAll X n ρ h vs as) : ∀ v ∈ vs, RefLt n v := by
  induction x with
  | nil => intro v hv; simp at hv
  | cons h1 _ ih =>
    intro v hv
    rcases List.mem_cons.mp hv with rfl | hv
    · exact h1.bound
    · exact ih v hv
theorem Has.rebase {n₀ n₁ n' : Nat} {ρ' : Nat → Addr} (x : Has X n₁ ρ₁ h v a) (hb : RefLt n₀ v) (hn : n₀ ≤ n') (hρ : ∀ i, i < n₀ → ρ' i = ρ₁ i) : Has X n' ρ' h v a := by
  cases x with
  | d r => exact .d r
  | ref hi => rw [← hρ _ hb]; exact .ref (Nat.lt_of_lt_of_le hb hn)
  | exc h1 h2 h3 h4 => exact .exc h1 h2 h3 h4
  | glob h1 => exact .glob h1
  | rng h1 h2 => exact .rng h1 h2
theorem HasAll.rebase {n₀ n₁ n' : Nat} {ρ' : Nat → Addr} {vs : List V} {as : List Value} (x : HasAll X n₁ ρ₁ h vs as) (hb : ∀ v ∈ vs, RefLt n₀ v) (hn : n₀ ≤ n') (hρ : ∀ i, i < n₀ → ρ' i = ρ₁ i) : HasAll X n' ρ' h vs as := by
  induction x with
  | nil => exact .nil
  | cons h1 _ ih => exact .cons (h1.rebase (hb _ List.mem_cons_self) hn hρ) (ih fun v hv => hb v (List.mem_cons_of_mem _ hv))
theorem Has.ren {n₁ n' : Nat} (x : Has X n₁ ρ₁ h v₁ a) (r : RenV π n' v v₁) : Has X n' (fun i => ρ₁ (π i)) h v a := by
  cases v with
  | ref i =>
    obtain ⟨hi, rfl⟩ := r
    cases x with
    | ref _ => exact .ref (ρ := fun i => ρ₁ (π i)) hi
  | zip i j => exact r.elim
  | d y => cases (r : v₁ = .d y); exact .d x.d_inv
  | exc c => cases (r : v₁ = .exc c); cases x with | exc h1 h2 h3 h4 => exact .exc h1 h2 h3 h4
  | glob c => cases (r : v₁ = .glob c); cases x with | glob h1 => exact .glob h1
  | rng lo hi => cases (r : v₁ = .rng lo hi); cases x with | rng h1 h2 => exact .rng h1 h2
theorem HasAll.ren {n₁ n' : Nat} {vs ws : List V} {as : List Value} (r : RenAll π n' vs ws) (x : HasAll X n₁ ρ₁ h ws as) : HasAll X n' (fun i => ρ₁ (π i)) h vs as := by
  induction r generalizing as with
  | nil => cases x; exact .nil
  | cons h1 _ ih => cases x with | cons x1 x2 => exact .cons (x1.ren h1) (ih x2)

theorem Emb.rep {W : Addr → Prop} (e : Emb σ σ₁ σ' v₁ v π) (R : Rep X ρ σ h) (R₁ : Rep X ρ₁ σ₁ h₁) (g : Go W σ ρ h σ₁ ρ₁ h₁) (hv : Has X σ₁.length ρ₁ h₁ v₁ a) :
    Rep X (fun i => ρ₁ (π i)) σ' h₁ ∧ Go W σ ρ h σ' (fun i => ρ₁ (π i)) h₁ ∧ Has X σ'.length (fun i => ρ₁ (π i)) h₁ v a := by
  have hge : ∀ i, σ.length ≤ i → i < σ'.length → σ.length ≤ π i := fun i h1 h2 => by
    by_cases hlt : π i < σ.length
    · have := e.inj (π i) i (Nat.lt_of_lt_of_le hlt e.len) h2 (e.old _ hlt)
      omega
    · omega
  refine ⟨⟨R₁.base, ?_, ?_, ?_⟩, ⟨g.size, g.keep, g.dicts, e.len, ?_, ?_⟩, hv.ren e.val⟩
  · intro i c hc
    have hi := (List.getElem?_eq_some_iff.mp hc).1
    rcases e.cell i hi with ⟨h1, h2, h3⟩ | ⟨c₁, c', h1, h2, h3⟩
    · rw [hc] at h2
      rw [← h2] at h3
      obtain ⟨its, hp, ha⟩ := R₁.cell i c h3
      obtain ⟨its0, _, ha0⟩ := R.cell i c h2.symm
      show CellAt X σ'.length (fun i => ρ₁ (π i)) h₁ (ρ₁ (π i)) c
      rw [e.old i h1]
      exact ⟨its, hp, ha.rebase ha0.bound e.len fun j hj => by show ρ₁ (π j) = ρ₁ j; rw [e.old j hj]⟩
    · rw [hc] at h2; cases h2
      obtain ⟨its, hp, ha⟩ := R₁.cell (π i) c₁ h1
      refine ⟨its, hp, ?_⟩
      cases c <;> cases c₁ <;> first | exact h3.elim | exact HasAll.ren h3 ha
  · intro i c hc ho
    have hi := (List.getElem?_eq_some_iff.mp hc).1
    rcases e.cell i hi with ⟨h1, h2, h3⟩ | ⟨c₁, c', h1, h2, h3⟩
    · rw [hc] at h2
      rw [← h2] at h3
      show X.B.get? (ρ₁ (π i)) = none
      rw [e.old i h1]
      exact R₁.own i c h3 ho
    · rw [hc] at h2; cases h2
      refine R₁.own (π i) c₁ h1 ?_
      cases c <;> cases c₁ <;> first | exact h3.elim | exact ho
  · intro i j hi hj q
    exact e.inj i j hi hj (R₁.inj _ _ (e.lt i hi) (e.lt j hj) q)
  · intro i hi
    show ρ₁ (π i) = ρ i
    rw [e.old i hi]; exact g.ext i hi
  · intro i h1 h2
    exact g.new _ (hge i h1 h2) (e.lt i h2)

theorem Emb.pure {τ : Store} {x : PyData} : Emb σ (σ ++ τ) σ (.d x) (.d x) id where
  old := fun _ _ => rfl
  len := Nat.le_refl _
  lt := fun i hi => by simp only [List.length_append, id]; omega
  inj := fun _ _ _ _ q => q
  cell := fun i hi => .inl ⟨hi, rfl, List.getElem?_append_left hi⟩
  val := rfl

theorem renAll_flat {n : Nat} : ∀ {xs : List V}, (∀ v ∈ xs, ∃ x, v = .d x) → RenAll π n xs xs
  | [], _ => .nil
  | v :: r, h => by
    obtain ⟨x, rfl⟩ := h v List.mem_cons_self
    exact .cons rfl (renAll_flat fun w hw => h w (List.mem_cons_of_mem _ hw))

theorem Emb.newList {τ : Store} {xs : List V} {j : Nat} (hj : τ[j]? = some (.lst xs)) (hf : ∀ v ∈ xs, ∃ x, v = .d x) :
    Emb σ (σ ++ τ) (σ ++ [.lst xs]) (.ref (σ.length + j)) (.ref σ.length) (fun i => if i = σ.length then σ.length + j else i) where
  old := fun i hi => if_neg (Nat.ne_of_lt hi)
  len := by simp
  lt := fun i hi => by
    have := (List.getElem?_eq_some_iff.mp hj).1
    simp only [List.length_append, List.length_cons, List.length_nil] at hi ⊢
    split <;> omega
  inj := fun i k hi hk q => by
    simp only [List.length_append, List.length_cons, List.length_nil] at hi hk
    by_cases h1 : i = σ.length <;> by_cases h2 : k = σ.length <;> simp only [h1, h2, if_true, if_false] at q <;> omega
  cell := fun i hi => by
    simp only [List.length_append, List.length_cons, List.length_nil] at hi
    by_cases h1 : i < σ.length
    · exact .inl ⟨h1, List.getElem?_append_left h1, List.getElem?_append_left h1⟩
    · have : i = σ.length := by omega
      subst this
      refine .inr ⟨.lst xs, .lst xs, ?_, by simp, renAll_flat hf⟩
      rw [if_pos rfl, List.getElem?_append_right (by omega)]
      simpa using hj
  val := ⟨by simp, by simp⟩
end
end Mine

set_option Elab.async false
set_option autoImplicit false
set_option linter.unusedVariables false
namespace Mine
open PySem PySem.Spec PySem.Calls PyProof.Rows

/-- a def of the text, as the top has left it -/
structure IsFn (X : Cx) (f : Str) (names : List Str) (body : List Stmt) (scope : Scope) : Prop where
  fn : ∃ a o pm code doc params, X.mg f = some (.ref a) ∧ X.B.get? a = some o ∧ o.data = .func (docDef f params body scope pm code doc) ∧ X.B.CodeRec code f ∧
    params.posonlyargs = [] ∧ params.args.map (·.arg) = names ∧ params.vararg = none ∧ params.kwonlyargs = [] ∧ params.kwarg = none

noncomputable def fnOkB (names : List Str) (scope : Scope) : Bool :=
  scope.kind == .function && !scope.isGenerator && !scope.isCoroutine && names.all (fun n => scope.names.lookup n == some .local || scope.names.lookup n == some .cell) &&
    scope.names.all (fun y => y.2 != .free) && (scope.names.lookup ("__debug__" : Str)).isNone && (scope.names.lookup ("__classdict__" : Str)).isNone && decide names.Nodup

structure FnOk (names : List Str) (scope : Scope) : Prop where
  kind : scope.kind = .function
  gen : scope.isGenerator = false
  cor : scope.isCoroutine = false
  params : ∀ n ∈ names, scope.names.lookup n = some .local ∨ scope.names.lookup n = some .cell
  nofree : ∀ y ∈ scope.names, y.2 ≠ .free
  debug : scope.names.lookup ("__debug__" : Str) = none
  classdict : scope.names.lookup ("__classdict__" : Str) = none
  nodup : names.Nodup

theorem fnOk_of {names : List Str} {scope : Scope} (h : fnOkB names scope = true) : FnOk names scope := by
  unfold fnOkB at h
  simp only [Bool.and_eq_true, beq_iff_eq, List.all_eq_true, bne_iff_ne, ne_eq, Bool.or_eq_true, Option.isNone_iff_eq_none, Bool.not_eq_true', decide_eq_true_eq] at h
  obtain ⟨⟨⟨⟨⟨⟨⟨h1, h2⟩, h3⟩, h4⟩, h5⟩, h6⟩, h7⟩, h8⟩ := h
  exact ⟨h1, h2, h3, h4, h5, h6, h7, h8⟩

theorem cellsFrom_isSome {x : Str} : ∀ (names : List (Str × NameKind)) (n : Nat) (acc : List (Str × Addr)), names.lookup x = some .cell ∨ (acc.lookup x).isSome = true → ((cellsFrom n names acc).lookup x).isSome = true
  | [], _, _, h => h.elim (fun e => by simp at e) id
  | (y, k) :: r, n, acc, h => by
    unfold cellsFrom
    by_cases hk : (k == .cell) = true
    · rw [if_pos hk]
      refine cellsFrom_isSome r (n + 1) ((y, n) :: acc) ?_
      by_cases hy : (x == y) = true
      · exact .inr (by rw [List.lookup_cons, hy]; rfl)
      · refine h.imp (fun e => ?_) fun e => ?_
        · rw [List.lookup_cons] at e; simpa only [hy] using e
        · rw [List.lookup_cons]; simpa only [hy] using e
    · rw [if_neg hk]
      refine cellsFrom_isSome r n acc ?_
      by_cases hy : (x == y) = true
      · refine .inr (h.elim (fun e => ?_) id)
        rw [List.lookup_cons, hy] at e
        exact absurd (by rw [Option.some.inj e]; rfl) hk
      · refine h.imp (fun e => ?_) id
        rw [List.lookup_cons] at e; simpa only [hy] using e

section
variable {kd : Str → Option NameKind}
theorem bindL_other {x : Str} : ∀ (names : List Str) (vals : List Value) (m : Str → Option Value), x ∉ names → bindL kd (names.zip vals) m x = m x
  | [], vals, m, _ => by simp [bindL]
  | a :: r, [], m, _ => by simp [bindL]
  | a :: r, v :: vs, m, h => by
    simp only [List.zip_cons_cons, bindL]
    rw [bindL_other r vs _ fun q => h (List.mem_cons_of_mem _ q)]
    split
    · exact if_neg fun q : x = a => h (q ▸ List.mem_cons_self)
    · rfl
theorem bindC_other {x : Str} : ∀ (names : List Str) (vals : List Value) (m : Str → Option Value), x ∉ names → bindC kd (names.zip vals) m x = m x
  | [], vals, m, _ => by simp [bindC]
  | a :: r, [], m, _ => by simp [bindC]
  | a :: r, v :: vs, m, h => by
    simp only [List.zip_cons_cons, bindC]
    rw [bindC_other r vs _ fun q => h (List.mem_cons_of_mem _ q)]
    split
    · rfl
    · exact if_neg fun q : x = a => h (q ▸ List.mem_cons_self)

variable {X : Cx} {n : Nat} {ρ : Nat → Addr} {h : Heap}
theorem bind_has {x : Str} : ∀ {names : List Str} {vs : List V} {vals : List Value} (m : Str → Option Value), names.Nodup → HasAll X n ρ h vs vals → ∀ {v : V}, (names.zip vs).lookup x = some v →
    ∃ a, Has X n ρ h v a ∧ (kd x = some .local → bindL kd (names.zip vals) m x = some a) ∧ (kd x ≠ some .local → bindC kd (names.zip vals) m x = some a)
  | [], vs, vals, m, _, _, v, e => by simp at e
  | a :: r, [], _, m, _, .nil, v, e => by simp at e
  | a :: r, w :: ws, _, m, hnd, .cons (a := b) (as := bs) h1 h2, v, e => by
    obtain ⟨n1, n2⟩ := List.nodup_cons.mp hnd
    simp only [List.zip_cons_cons, List.lookup_cons] at e
    cases hb : x == a with
    | true =>
      rw [hb] at e; cases e
      have hxa := beq_iff_eq.mp hb
      subst hxa
      refine ⟨b, h1, fun hk => ?_, fun hk => ?_⟩
      · simp only [List.zip_cons_cons, bindL]
        rw [bindL_other r bs _ n1, if_pos hk]; exact if_pos rfl
      · simp only [List.zip_cons_cons, bindC]
        rw [bindC_other r bs _ n1, if_neg hk]; exact if_pos rfl
    | false =>
      rw [hb] at e
      simp only [List.zip_cons_cons, bindL, bindC]
      obtain ⟨q, hq, h3, _⟩ := bind_has (if kd a = some .local then (fun y => if y = a then some b else m y) else m) n2 h2 e
      obtain ⟨q', hq', _, h4⟩ := bind_has (if kd a = some .local then m else (fun y => if y = a then some b else m y)) n2 h2 e
      by_cases hk : kd x = some .local
      · exact ⟨q, hq, h3, fun hn => absurd hk hn⟩
      · exact ⟨q', hq', fun hl => absurd hl hk, h4⟩
end

/-- how a body's end meets a call's end -/
noncomputable def retK (σ : Store) (K : OutE → Prop) : OutS → Prop
  | .next _ σ₁ => ∃ v σ' π, Emb σ σ₁ σ' (.d .none) v π ∧ K (.val v σ')
  | .ret v₁ σ₁ => ∃ v σ' π, Emb σ σ₁ σ' v₁ v π ∧ K (.val v σ')
  | .exn _ _ _ => False

theorem valid_fn {X : Cx} {k n : Nat} {Γ : Sig} {f : Str} {names : List Str} {body : List Stmt} {scope : Scope} {T : Contract} (cx : CxOk X) (ok : SigOk X k Γ) (hf : IsFn X f names body scope) (hok : fnOkB names scope = true)
    (hb : ∀ vs σ K, T vs σ K → vs.length = names.length ∧ wpSs (wpS Γ n (kindsOf scope.names)) body (fun y => (names.zip vs).lookup y) σ (retK σ K)) : ValidF X (k + 1) f T := by
  obtain ⟨a, o, pm, code, doc, params, hmg, ho, hd, hcd, p1, p2, p3, p4, p5⟩ := hf.fn
  have fo := fnOk_of hok
  refine ⟨.ref a, by unfold Cx.val; rw [hmg]; rfl, Kp.func ho hd, ?_⟩
  intro vs σ K hT A s ρ vals Q E ar R hall hokE erE
  obtain ⟨hlen, hw⟩ := hb vs σ K hT
  have hlen' : vals.length = names.length := by rw [← hall.length]; exact hlen
  have hdep := ar.depth
  refine wpAny_call (codeAny_call_cells (binds := names.zip vals) (by omega) (R.base _ _ ho) hd (cx.nolimit.keeps R.base) (hcd.keeps R.base) rfl
    (bind_plain p1 p2 p3 p4 p5 rfl fo.nodup hlen') rfl (fun x hx => ?_) (fun s₁ ic => ?_) fo.cor fo.gen fo.kind)
  · have hx1 : x.1 ∈ names := (List.of_mem_zip hx).1
    rcases fo.params x.1 hx1 with q | q
    · exact .inl q
    · exact .inr ⟨q, cellsFrom_isSome _ _ _ (.inl q)⟩
  · obtain ⟨⟨⟨h₁, tk₁, rfl⟩, hns, hkeep, hfresh⟩, hcell, hapart, habove⟩ := ic
    dsimp only at hns hkeep
    have henv : (callEnvC (docDef f params body scope pm code doc) s.heap.objs.size a).locals = s.heap.objs.size := rfl
    generalize hE : callEnvC (docDef f params body scope pm code doc) s.heap.objs.size a = env at *
    have hsc : env.scope = scope := by rw [← hE]; rfl
    have hfr : env.frame = some env.locals := by rw [← hE]; rfl
    have hz : s.heap.objs.size ≤ h₁.objs.size := by
      obtain ⟨o', es, ep, e', _⟩ := hns
      rw [henv] at e'
      exact Nat.le_of_lt (Heap.lt_size e')
    have hkd : ∀ x, env.kindOf x = scope.names.lookup x := fun x => by unfold Env.kindOf; rw [hsc]
    have R₁ : Rep X ρ σ h₁ := R.grow hkeep
    have g₁ : Go Nowhere σ ρ s.heap σ ρ h₁ := .ofGrow hz hkeep
    have hall₁ := hall.go R g₁ .nowhere
    have hnone : ∀ b, s.heap.objs.size ≤ b → X.B.get? b = none := fun b hb => by
      cases e : X.B.get? b with
      | none => rfl
      | some o => exact absurd (Heap.lt_size (R.base _ _ e)) (Nat.not_lt.mpr hb)
    have F₁ : Frm X env (kindsOf scope.names) (fun y => (names.zip vs).lookup y) σ.length ρ h₁ := {
      kind := by rw [hsc]; exact fo.kind
      glob := by rw [← hE]; rfl
      bi := by rw [← hE]; rfl
      kinds := {
        loc := fun x hx => (hkd x).trans hx
        cell := fun x hx => (hkd x).trans hx
        free := fun x hx => absurd rfl (fo.nofree _ (mem_lookup hx))
        glob := fun x hx => (hkd x).trans hx
        debug := fo.debug
        classdict := fo.classdict }
      ns := ⟨_, hns, fun x v hx hv => by
        obtain ⟨b, h1, h2, _⟩ := bind_has (kd := env.kindOf) (fun _ => none) fo.nodup hall₁ hv
        exact ⟨b, h2 ((hkd x).trans hx), h1⟩⟩
      cells := fun x hx => by
        have hx' : scope.names.lookup x = some .cell := by
          rcases hx with q | q
          · exact q
          · exact absurd rfl (fo.nofree _ (mem_lookup q))
        have hcs : env.cells = cellsFrom (s.heap.objs.size + 1) scope.names [] := by rw [← hE]; rfl
        have := cellsFrom_isSome scope.names (s.heap.objs.size + 1) [] (.inl hx')
        rw [← hcs] at this
        obtain ⟨c, hc⟩ := Option.isSome_iff_exists.mp this
        refine ⟨c, _, hc, hcell x c hc, fun v hv => ?_⟩
        obtain ⟨b, h1, _, h2⟩ := bind_has (kd := env.kindOf) (fun _ => none) fo.nodup hall₁ hv
        exact ⟨b, h2 (by rw [hkd x, hx']; decide), h1⟩
      isCells := fun x c hc => ⟨_, hcell x c hc⟩
      sepL := fun i hi q => by
        have := R.lt hi
        rw [q, henv] at this
        exact Nat.lt_irrefl _ this
      newL := hnone _ (by rw [henv]; exact Nat.le_refl _)
      newC := fun x c hc => hnone c (by have := habove x c (mem_of_lookup hc); rw [henv] at this; exact Nat.le_of_lt this)
      apart := fun x y c hx hy => name_of_addr hapart (mem_of_lookup hx) (mem_of_lookup hy) }
    have ar₁ : Ar X k (A.deeper env) env h₁ := {
      handled := ar.handled
      depth := by show A.depth + 1 + k < recursionLimit; omega
      units := by show A.units + 3 + 20 * k + 200 < cLine; have := ar.units; omega
      stack := by
        obtain ⟨l, h1, h3⟩ := ar.stack
        refine ⟨env, l, ?_, rfl, ?_⟩
        · show A.frames.map (env :: ·) = _
          rw [h1]; rfl
        · intro e he
          rcases List.mem_cons.mp he with rfl | he
          · obtain ⟨o', es, ep, e', d, _⟩ := hns
            exact ⟨by rw [hsc, fo.kind]; decide, _, o', es, ep, hfr, hnone _ (by rw [henv]; exact Nat.le_refl _), e', d⟩
          · exact h3.go g₁ e he }
    have hWr : ∀ b o, s.heap.get? b = some o → Wr env b → False := fun b o e hb => by
      have hlt := Heap.lt_size e
      rcases hb with q | ⟨x, hx⟩
      · rw [q, henv] at hlt; exact Nat.lt_irrefl _ hlt
      · have := habove x b (mem_of_lookup hx); rw [henv] at this; exact absurd hlt (Nat.not_lt.mpr (Nat.le_of_lt this))
    have fin : ∀ {v₁ σ₁ ρ₁ a₁ h' v σ' π} {tk : Nat}, Emb σ σ₁ σ' v₁ v π → K (.val v σ') → Rep X ρ₁ σ₁ h' → Go (Wr env) σ ρ h₁ σ₁ ρ₁ h' → Has X σ₁.length ρ₁ h' v₁ a₁ → Q a₁ { s with heap := h', toks := tk } := by
      intro v₁ σ₁ ρ₁ a₁ h' v σ' π tk e hK R' g' hv
      have G : Go (Wr env) σ ρ s.heap σ₁ ρ₁ h' := g₁.up.trans g'
      obtain ⟨Rf, gf, hf⟩ := e.rep R R' G hv
      exact hokE v σ' _ a₁ h' tk hK Rf (gf.weaken fun b o e q => hWr b o e q) hf
    refine SS.seq (fun st m σ K => soundS cx ok n env _ st m σ K) body _ σ _ hw (A.deeper env) { s with heap := h₁, toks := tk₁ } ρ _ _ ar₁ R₁ F₁ (fun m' σ₁ ρ₁ h' tk hK R' g' F' => ?_) (fun v₁ σ₁ ρ₁ a₁ h' tk hK R' g' hv => ?_) fun _ _ _ _ _ _ _ hK => hK.elim
    · obtain ⟨v, σ', π, e, hK⟩ := hK
      exact fin e hK R' g' .ofNone
    · obtain ⟨v, σ', π, e, hK⟩ := hK
      exact fin e hK R' g' hv
end Mine

set_option Elab.async false
set_option autoImplicit false
set_option linter.unusedVariables false
namespace Mine
open PySem PySem.Spec PySem.Calls PyProof.Rows

/-- the built-in names that the programs use -/
noncomputable def biTable : List (Str × Value) := [("len", .builtin "len"), ("isinstance", .builtin "isinstance"), ("sum", .builtin "sum"), ("min", .builtin "min"), ("max", .builtin "max"), ("abs", .builtin "abs"),
  ("sorted", .builtin "sorted"), ("all", .builtin "all"),
  ("list", .type "list"), ("range", .type "range"), ("int", .type "int"), ("bool", .type "bool"), ("str", .type "str"), ("tuple", .type "tuple"), ("zip", .type "zip"), ("dict", .type "dict"), ("ValueError", .type "ValueError")]

noncomputable def CxB (X : Cx) : Prop := ∀ p ∈ biTable, X.val p.1 = some p.2

/-! len -/
noncomputable def lenT : Contract := fun vs σ K => match vs with
  | [.ref i] => ∃ xs, itemsAt σ i = some xs ∧ xs.length ≤ 1000000 ∧ K (.val (.d (.int xs.length)) σ)
  | [.d (.tuple xs)] => xs.length ≤ 1000000 ∧ K (.val (.d (.int xs.length)) σ)
  | [.d (.str x)] => x.length ≤ 1000000 ∧ K (.val (.d (.int x.length)) σ)
  | _ => False

section
variable {X : Cx} {k : Nat}

theorem HasAll.one_inv {n : Nat} {ρ : Nat → Addr} {h : Heap} {v : V} {as : List Value} (x : HasAll X n ρ h [v] as) : ∃ a, as = [a] ∧ Has X n ρ h v a := by
  cases x with | cons h1 h2 => cases h2; exact ⟨_, rfl, h1⟩
theorem HasAll.two_inv {n : Nat} {ρ : Nat → Addr} {h : Heap} {v w : V} {as : List Value} (x : HasAll X n ρ h [v, w] as) : ∃ a b, as = [a, b] ∧ Has X n ρ h v a ∧ Has X n ρ h w b := by
  cases x with | cons h1 h2 => cases h2 with | cons h2 h3 => cases h3; exact ⟨_, _, rfl, h1, h2⟩

theorem len_tup {prog : Program} {w : World} {A : Around} {s : Shared} {E : Value → Shared → Prop} {t : Addr} {items : Array Value} {Q : Value → Shared → Prop} (ht : IsTup s.heap t items) (hfit : (items.size : Int) < 2 ^ 63)
    (h : ∀ tk u, Q (.int items.size u) { s with toks := tk }) : wpAny (model prog w) A (call (.builtin "len") [.ref t]) Q E s :=
  PyProof.Rows.len_tuple ht (by omega) (h _ _)

theorem valid_len (b : CxB X) : ValidF X k ("len" : Str) lenT := by
  refine ⟨.builtin "len", b ("len", .builtin "len") (by simp [biTable]), Kp.builtin, ?_⟩
  intro vs σ K hT A s ρ vals Q E ar R hall ok er
  unfold lenT at hT
  split at hT
  · obtain ⟨xs, h1, h2, h3⟩ := hT
    obtain ⟨a, rfl, hv⟩ := hall.one_inv
    obtain ⟨_, rfl⟩ := hv.ref_inv
    obtain ⟨_, its, ⟨n, e⟩, ha⟩ := R.list h1
    have hz : xs.length = its.length := ha.length
    refine call_len_list ⟨_, e, rfl, n, rfl⟩ (by rw [List.size_toArray]; omega) ?_
    have := ok _ _ _ (.int its.length (s.toks + 1)) _ (s.toks + 1 + 1) h3 R (.refl ..) (by rw [hz]; exact .ofInt ..)
    simpa using this
  · obtain ⟨h2, h3⟩ := hT
    obtain ⟨a, rfl, hv⟩ := hall.one_inv
    have r := hv.d_inv
    cases r with
    | @tuple a o vs n xs as e1 e2 e3 e4 =>
      have hl := SeqAt.ReadsAll.length _ _ _ e4
      rw [Array.length_toList] at hl
      refine len_tup ⟨o, e1, e2, n, e3⟩ (by omega) fun tk u => ?_
      exact ok _ _ _ _ _ tk h3 R (.refl ..) (by rw [hl]; exact .ofInt ..)
  · obtain ⟨h2, h3⟩ := hT
    obtain ⟨a, rfl, hv⟩ := hall.one_inv
    obtain ⟨t, rfl⟩ := hv.str_inv
    exact PySem.P.len_str (by omega) (ok _ _ _ _ _ _ h3 R (.refl ..) (.ofInt ..))
  · exact hT.elim

/-! isinstance -/
noncomputable def kindName : PyData → Option String
  | .none => some "NoneType"
  | .bool _ => some "bool"
  | .int _ => some "int"
  | .str _ => some "str"
  | .tuple _ => some "tuple"
  | _ => none
noncomputable def isiName (k : String) (t : Str) : Option Bool :=
  if t = ("int" : Str) then some (k == "int" || k == "bool")
  else if t = ("bool" : Str) then some (k == "bool")
  else if t = ("str" : Str) then some (k == "str")
  else if t = ("tuple" : Str) then some (k == "tuple")
  else if t = ("list" : Str) then some (k == "list")
  else none
noncomputable def isiW (σ : Store) (v : V) (t : Str) : Option Bool :=
  match v with
  | .d x => (kindName x).bind fun k => isiName k t
  | .ref i => (itemsAt σ i).bind fun _ => isiName "list" t
  | _ => none
noncomputable def isiT : Contract := fun vs σ K => match vs with
  | [v, .glob t] => ∃ b, isiW σ v t = some b ∧ K (.val (.d (.bool b)) σ)
  | _ => False

theorem none_isi {prog : Program} {w : World} {A : Around} {s : Shared} {E : Value → Shared → Prop} {Q : Value → Shared → Prop} {T : String} (hT : T ∈ ["int", "bool", "str", "tuple", "list"]) (h : ∀ tk, Q (.bool false) { s with toks := tk }) :
    wpAny (model prog w) A (call (.builtin "isinstance") [.none, .type T]) Q E s := by
  simp only [List.mem_cons, List.not_mem_nil, or_false] at hT
  rcases hT with rfl | rfl | rfl | rfl | rfl
  · exact IsiPair.NoneType_int (h _)
  · exact IsiPair.NoneType_bool (h _)
  · exact IsiPair.NoneType_str (h _)
  · exact IsiPair.NoneType_tuple (h _)
  · exact IsiPair.NoneType_list (h _)

theorem isi_sound {prog : Program} {w : World} {A : Around} {s : Shared} {E : Value → Shared → Prop} {Q : Value → Shared → Prop} {T k : String} {v : Value} {b : Bool} (hT : T ∈ ["int", "bool", "str", "tuple", "list"])
    (hk : (k = "NoneType" ∧ v = .none) ∨ (k = "bool" ∧ ∃ c, v = .bool c) ∨ (k = "int" ∧ ∃ i t, v = .int i t) ∨ (k = "str" ∧ ∃ i t, v = .str i t) ∨ (k = "tuple" ∧ ∃ a o, v = .ref a ∧ s.heap.get? a = some o ∧ o.cls = .type "tuple") ∨
      (k = "list" ∧ ∃ a o, v = .ref a ∧ s.heap.get? a = some o ∧ o.cls = .type "list"))
    (hb : b = (k == T || (k == "bool" && T == "int"))) (h : ∀ tk, Q (.bool b) { s with toks := tk }) : wpAny (model prog w) A (call (.builtin "isinstance") [v, .type T]) Q E s := by
  rcases hk with ⟨rfl, rfl⟩ | ⟨rfl, c, rfl⟩ | ⟨rfl, i, t, rfl⟩ | ⟨rfl, i, t, rfl⟩ | ⟨rfl, a, o, rfl, ho, hc⟩ | ⟨rfl, a, o, rfl, ho, hc⟩
  · refine none_isi hT fun tk => ?_
    have hb' : b = false := by
      subst hb
      simp only [List.mem_cons, List.not_mem_nil, or_false] at hT
      rcases hT with rfl | rfl | rfl | rfl | rfl <;> decide
    rw [← hb']; exact h tk
  all_goals (simp only [List.mem_cons, List.not_mem_nil, or_false] at hT)
  all_goals (rcases hT with rfl | rfl | rfl | rfl | rfl)
  all_goals first
    | (have hb' : b = true := by (rw [hb]; decide)
       subst hb'
       first
         | exact IsiPair.bool_int (h s.toks) | exact IsiPair.bool_bool (h s.toks) | exact IsiPair.int_int (h s.toks) | exact IsiPair.str_str (h s.toks)
         | exact IsiPair.tuple_tuple (by assumption) (by assumption) (h s.toks) | exact IsiPair.list_list (by assumption) (by assumption) (h s.toks))
    | (have hb' : b = false := by (rw [hb]; decide)
       subst hb'
       first
         | exact IsiPair.bool_str (h _) | exact IsiPair.bool_tuple (h _) | exact IsiPair.bool_list (h _)
         | exact IsiPair.int_bool (h _) | exact IsiPair.int_str (h _) | exact IsiPair.int_tuple (h _) | exact IsiPair.int_list (h _)
         | exact IsiPair.str_int (h _) | exact IsiPair.str_bool (h _) | exact IsiPair.str_tuple (h _) | exact IsiPair.str_list (h _)
         | exact IsiPair.tuple_int (by assumption) (by assumption) (h _) | exact IsiPair.tuple_bool (by assumption) (by assumption) (h _) | exact IsiPair.tuple_str (by assumption) (by assumption) (h _) | exact IsiPair.tuple_list (by assumption) (by assumption) (h _)
         | exact IsiPair.list_int (by assumption) (by assumption) (h _) | exact IsiPair.list_bool (by assumption) (by assumption) (h _) | exact IsiPair.list_str (by assumption) (by assumption) (h _) | exact IsiPair.list_tuple (by assumption) (by assumption) (h _))

theorem isiName_inv {k : String} {t : Str} {b : Bool} (hk : k ∈ ["NoneType", "bool", "int", "str", "tuple", "list"]) (h : isiName k t = some b) : ∃ T ∈ ["int", "bool", "str", "tuple", "list"], t = Str.ofString T ∧ b = (k == T || (k == "bool" && T == "int")) := by
  unfold isiName at h
  split at h
  · rename_i e; cases h; exact ⟨"int", by simp, e, by simp only [List.mem_cons, List.not_mem_nil, or_false] at hk; rcases hk with rfl | rfl | rfl | rfl | rfl | rfl <;> decide⟩
  · split at h
    · rename_i e; cases h; exact ⟨"bool", by simp, e, by simp only [List.mem_cons, List.not_mem_nil, or_false] at hk; rcases hk with rfl | rfl | rfl | rfl | rfl | rfl <;> decide⟩
    · split at h
      · rename_i e; cases h; exact ⟨"str", by simp, e, by simp only [List.mem_cons, List.not_mem_nil, or_false] at hk; rcases hk with rfl | rfl | rfl | rfl | rfl | rfl <;> decide⟩
      · split at h
        · rename_i e; cases h; exact ⟨"tuple", by simp, e, by simp only [List.mem_cons, List.not_mem_nil, or_false] at hk; rcases hk with rfl | rfl | rfl | rfl | rfl | rfl <;> decide⟩
        · split at h
          · rename_i e; cases h; exact ⟨"list", by simp, e, by simp only [List.mem_cons, List.not_mem_nil, or_false] at hk; rcases hk with rfl | rfl | rfl | rfl | rfl | rfl <;> decide⟩
          · cases h

theorem valid_isi (b : CxB X) : ValidF X k ("isinstance" : Str) isiT := by
  refine ⟨.builtin "isinstance", b ("isinstance", .builtin "isinstance") (by simp [biTable]), Kp.builtin, ?_⟩
  intro vs σ K hT A s ρ vals Q E ar R hall ok er
  unfold isiT at hT
  split at hT
  · rename_i v t
    obtain ⟨r, h1, h2⟩ := hT
    obtain ⟨a, c, rfl, hv, hc⟩ := hall.two_inv
    have hty : ∀ T ∈ ["int", "bool", "str", "tuple", "list"], t = Str.ofString T → c = .type T := fun T hT e => by
      have := hc.glob_inv
      subst e
      simp only [List.mem_cons, List.not_mem_nil, or_false] at hT
      rcases hT with rfl | rfl | rfl | rfl | rfl
      · have q := b ("int", .type "int") (by simp [biTable]); rw [this] at q; exact Option.some.inj q
      · have q := b ("bool", .type "bool") (by simp [biTable]); rw [this] at q; exact Option.some.inj q
      · have q := b ("str", .type "str") (by simp [biTable]); rw [this] at q; exact Option.some.inj q
      · have q := b ("tuple", .type "tuple") (by simp [biTable]); rw [this] at q; exact Option.some.inj q
      · have q := b ("list", .type "list") (by simp [biTable]); rw [this] at q; exact Option.some.inj q
    have fin : ∀ tk, Q (.bool r) { s with toks := tk } := fun tk => ok _ _ _ _ _ tk h2 R (.refl ..) (.ofBool r)
    unfold isiW at h1
    split at h1
    · rename_i x
      obtain ⟨kn, hk, h1⟩ := Option.bind_eq_some_iff.mp h1
      have hr := hv.d_inv
      cases x with
      | none => cases hk; cases hr; obtain ⟨T, hT, e, hb⟩ := isiName_inv (by simp) h1; rw [hty T hT e]; exact isi_sound hT (.inl ⟨rfl, rfl⟩) hb fin
      | bool x => cases hk; cases hr; obtain ⟨T, hT, e, hb⟩ := isiName_inv (by simp) h1; rw [hty T hT e]; exact isi_sound hT (.inr (.inl ⟨rfl, _, rfl⟩)) hb fin
      | int x => cases hk; cases hr; obtain ⟨T, hT, e, hb⟩ := isiName_inv (by simp) h1; rw [hty T hT e]; exact isi_sound hT (.inr (.inr (.inl ⟨rfl, _, _, rfl⟩))) hb fin
      | str x => cases hk; cases hr; obtain ⟨T, hT, e, hb⟩ := isiName_inv (by simp) h1; rw [hty T hT e]; exact isi_sound hT (.inr (.inr (.inr (.inl ⟨rfl, _, _, rfl⟩)))) hb fin
      | tuple x =>
        cases hk
        cases hr with
        | @tuple a o vs n xs as e1 e2 e3 e4 => obtain ⟨T, hT, e, hb⟩ := isiName_inv (by simp) h1; rw [hty T hT e]; exact isi_sound hT (.inr (.inr (.inr (.inr (.inl ⟨rfl, _, _, rfl, e1, e2⟩))))) hb fin
      | list x => cases hk
      | dict x => cases hk
    · obtain ⟨xs, hi, h1⟩ := Option.bind_eq_some_iff.mp h1
      obtain ⟨_, rfl⟩ := hv.ref_inv
      obtain ⟨_, its, ⟨n, e⟩, _⟩ := R.list hi
      obtain ⟨T, hT, e', hb⟩ := isiName_inv (by simp) h1
      rw [hty T hT e']
      exact isi_sound hT (.inr (.inr (.inr (.inr (.inr ⟨rfl, _, _, rfl, e, rfl⟩))))) hb fin
    · cases h1
  · exact hT.elim

/-! sums, least and greatest -/
noncomputable abbrev vInt (i : Int) : V := .d (.int i)

theorem ints_items {n : Nat} {ρ : Nat → Addr} {h : Heap} : ∀ {ns : List Int} {as : List Value}, HasAll X n ρ h (ns.map vInt) as → ∃ xs : List (Int × Tok), as = xs.map (fun p => .int p.1 p.2) ∧ xs.map (·.1) = ns
  | [], _, x => by cases x; exact ⟨[], rfl, rfl⟩
  | i :: ns, _, x => by
    cases x with
    | cons h1 h2 =>
      obtain ⟨t, rfl⟩ := h1.int_inv
      obtain ⟨xs, rfl, e⟩ := ints_items h2
      exact ⟨(i, t) :: xs, rfl, by simp [e]⟩

noncomputable def sumT : Contract := fun vs σ K => match vs with
  | [.ref i] => ∃ ns : List Int, itemsAt σ i = some (ns.map vInt) ∧ K (.val (vInt ns.sum) σ)
  | _ => False

theorem OkE.grown {σ : Store} {ρ : Nat → Addr} {s : Shared} {K : OutE → Prop} {Q : Value → Shared → Prop} (ok : OkE X σ ρ s K Q) (R : Rep X ρ σ s.heap) {v : V} {a : Value} {h' : Heap} {tk : Nat} (hz : s.heap.objs.size ≤ h'.objs.size)
    (hk : ∀ b o, s.heap.get? b = some o → h'.get? b = some o) (hK : K (.val v σ)) (hv : Has X σ.length ρ h' v a) : Q a { s with heap := h', toks := tk } :=
  ok v σ ρ a h' tk hK (R.grow hk) (.ofGrow hz hk) hv

theorem valid_sum (b : CxB X) : ValidF X k ("sum" : Str) sumT := by
  refine ⟨.builtin "sum", b ("sum", .builtin "sum") (by simp [biTable]), Kp.builtin, ?_⟩
  intro vs σ K hT A s ρ vals Q E ar R hall ok er
  unfold sumT at hT
  split at hT
  · obtain ⟨ns, h1, h2⟩ := hT
    obtain ⟨a, rfl, hv⟩ := hall.one_inv
    obtain ⟨_, rfl⟩ := hv.ref_inv
    obtain ⟨_, its, ⟨n, e⟩, ha⟩ := R.list h1
    obtain ⟨xs, rfl, exs⟩ := ints_items ha
    have e1 : (xs.map fun p => Value.int p.1 p.2).toArray = intItems xs.toArray := by simp [intItems]
    refine wpAny_sized (sum_intListG ar.handled (xs := xs.toArray) ⟨_, e, rfl, n, by rw [e1]⟩ fun h' tk t' hk hz => ?_)
    refine ok.grown R hz hk h2 ?_
    have : preSum (numAt xs.toArray) xs.toArray.size = ns.sum := by
      rw [preSum_eq, List.take_of_length_le (by simp), ← exs]
    rw [← this]; exact .ofInt ..
  · exact hT.elim

noncomputable def minT : Contract := fun vs σ K => match vs with
  | [.d (.int i), .d (.int j)] => K (.val (vInt (if j < i then j else i)) σ)
  | _ => False
noncomputable def maxT : Contract := fun vs σ K => match vs with
  | [.d (.int i), .d (.int j)] => K (.val (vInt (if i < j then j else i)) σ)
  | _ => False

theorem valid_min (b : CxB X) : ValidF X k ("min" : Str) minT := by
  refine ⟨.builtin "min", b ("min", .builtin "min") (by simp [biTable]), Kp.builtin, ?_⟩
  intro vs σ K hT A s ρ vals Q E ar R hall ok er
  unfold minT at hT
  split at hT
  · rename_i i j
    obtain ⟨a, c, rfl, hv, hc⟩ := hall.two_inv
    obtain ⟨t, rfl⟩ := hv.int_inv; obtain ⟨u, rfl⟩ := hc.int_inv
    refine wpAny_sized (min_two_ints ar.handled fun h' tk hk hz => ?_)
    refine ok.grown R hz hk hT ?_
    split <;> exact .ofInt ..
  · exact hT.elim
theorem valid_max (b : CxB X) : ValidF X k ("max" : Str) maxT := by
  refine ⟨.builtin "max", b ("max", .builtin "max") (by simp [biTable]), Kp.builtin, ?_⟩
  intro vs σ K hT A s ρ vals Q E ar R hall ok er
  unfold maxT at hT
  split at hT
  · rename_i i j
    obtain ⟨a, c, rfl, hv, hc⟩ := hall.two_inv
    obtain ⟨t, rfl⟩ := hv.int_inv; obtain ⟨u, rfl⟩ := hc.int_inv
    refine wpAny_sized (max_two_ints ar.handled fun h' tk hk hz => ?_)
    refine ok.grown R hz hk hT ?_
    by_cases h : i < j
    · rw [if_pos h, if_pos h]; exact .ofInt ..
    · rw [if_neg h, if_neg h]; exact .ofInt ..
  · exact hT.elim

noncomputable def absT : Contract := fun vs σ K => match vs with
  | [.d (.int i)] => K (.val (vInt (if i < 0 then -i else i)) σ)
  | _ => False
theorem valid_abs (b : CxB X) : ValidF X k ("abs" : Str) absT := by
  refine ⟨.builtin "abs", b ("abs", .builtin "abs") (by simp [biTable]), Kp.builtin, ?_⟩
  intro vs σ K hT A s ρ vals Q E ar R hall ok er
  unfold absT at hT
  split at hT
  · obtain ⟨a, rfl, hv⟩ := hall.one_inv
    obtain ⟨t, rfl⟩ := hv.int_inv
    exact call_abs_int fun u tk => ok.same R hT (.ofInt ..) tk
  · exact hT.elim

/-! list, range -/
noncomputable def listT : Contract := fun vs σ K => match vs with
  | [.ref i] => ∃ xs, itemsAt σ i = some xs ∧ xs.length ≤ 1000000 ∧ K (.val (.ref σ.length) (σ ++ [.lst xs]))
  | [.d (.tuple xs)] => xs.length ≤ 1000000 ∧ K (.val (.ref σ.length) (σ ++ [.lst (xs.map V.d)]))
  | _ => False

theorem readsAll_has {n : Nat} {ρ : Nat → Addr} {h : Heap} : ∀ {vs : List Value} {xs : List PyData} {as : List Addr}, ReadsAll h vs xs as → as = [] → HasAll X n ρ h (xs.map V.d) vs
  | _, _, _, .nil, _ => .nil
  | _, _, _, .cons h1 h2, ea => by
    obtain ⟨e1, e2⟩ := List.append_eq_nil_iff.mp ea
    subst e1
    exact .cons (.d h1) (readsAll_has h2 e2)

theorem valid_list (b : CxB X) : ValidF X k ("list" : Str) listT := by
  refine ⟨.type "list", b ("list", .type "list") (by simp [biTable]), Kp.type, ?_⟩
  intro vs σ K hT A s ρ vals Q E ar R hall ok er
  have main : ∀ (xs : List V) (its : List Value) (it : Addr) (T : String) (o : Obj) (n : Nat), (T = "list" ∨ T = "tuple") → s.heap.get? it = some o → o.cls = .type T → o.data = .seq its.toArray n → HasAll X σ.length ρ s.heap xs its → xs.length ≤ 1000000 →
      K (.val (.ref σ.length) (σ ++ [.lst xs])) → wpAny (model X.prog X.w) A (call (.type "list") [.ref it]) Q E s := by
    intro xs its it T o n hT ho hc hd ha hlen hK
    refine wpAny_sized (call_list_seq it hT ho hc hd (fun h' c' hk hD hz => ?_) (by rw [List.size_toArray, sizeLine_eq, ← ha.length]; omega))
    have hz : s.heap.objs.size ≤ h'.objs.size := hz
    have hfree : s.heap.get? s.heap.objs.size = none := Heap.get?_none_of_le (Nat.le_refl _)
    obtain ⟨ρ', Ra, hρa, hDa⟩ := (R.grow hk).adopt hD (ha.mono (Nat.le_refl _) (fun _ _ => rfl) fun b o e _ => hk b o e) (fun i hi => Nat.ne_of_lt (R.lt hi)) (by
      cases e : X.B.get? s.heap.objs.size with
      | none => rfl
      | some o => exact absurd (Heap.lt_size (R.base _ _ e)) (Nat.lt_irrefl _))
    have := ok _ _ ρ' (.ref (ρ' σ.length)) h' s.toks hK Ra ⟨hz, fun b o e _ _ => ⟨o.slots, hk b o e, fun _ => rfl⟩, fun b o es n e d => ⟨o, es, n, hk _ _ e, d⟩, by simp, hρa, fun i h1 h2 => by
      have : i = σ.length := by simp at h2; omega
      subst this; rw [hDa]; exact Nat.le_refl _⟩ (.ref (by simp))
    rw [hDa] at this
    exact this
  unfold listT at hT
  split at hT
  · obtain ⟨xs, h1, h2, h3⟩ := hT
    obtain ⟨a, rfl, hv⟩ := hall.one_inv
    obtain ⟨_, rfl⟩ := hv.ref_inv
    obtain ⟨_, its, ⟨n, e⟩, ha⟩ := R.list h1
    exact main xs its _ "list" _ n (.inl rfl) e rfl rfl ha h2 h3
  · obtain ⟨h2, h3⟩ := hT
    obtain ⟨a, rfl, hv⟩ := hall.one_inv
    have r := hv.d_inv
    cases r with
    | @tuple a o vs n ys as e1 e2 e3 e4 =>
      exact main _ vs.toList a "tuple" o n (.inr rfl) e1 e2 (by simpa using e3) (readsAll_has e4 rfl) (by simpa using h2) h3
  · exact hT.elim

noncomputable def rangeT : Contract := fun vs σ K => match vs with
  | [.d (.int n)] => (-(2 ^ 62) < n ∧ n < 2 ^ 62) ∧ K (.val (.rng 0 n) σ)
  | [.d (.int a), .d (.int n)] => ((-(2 ^ 62) < a ∧ a < 2 ^ 62) ∧ (-(2 ^ 62) < n ∧ n < 2 ^ 62)) ∧ K (.val (.rng a n) σ)
  | _ => False

theorem small_of {a n : Int} (h1 : -(2 ^ 62) < a ∧ a < 2 ^ 62) (h2 : -(2 ^ 62) < n ∧ n < 2 ^ 62) : Builtin.Range.small a n 1 = true := by
  unfold Builtin.Range.small
  simp only [Builtin.Range.rangeSize, Builtin.Range.rangeFitsLong]
  simp only [show (1 : Int) > 0 by decide, if_true, Int.ediv_one]
  simp only [Bool.and_eq_true, Bool.or_eq_true, decide_eq_true_eq, beq_iff_eq]
  split <;> (try simp only [Int.sub_self]) <;> omega

theorem valid_range (b : CxB X) : ValidF X k ("range" : Str) rangeT := by
  refine ⟨.type "range", b ("range", .type "range") (by simp [biTable]), Kp.type, ?_⟩
  intro vs σ K hT A s ρ vals Q E ar R hall ok er
  unfold rangeT at hT
  split at hT
  · obtain ⟨h1, h2⟩ := hT
    obtain ⟨a, rfl, hv⟩ := hall.one_inv
    obtain ⟨t, rfl⟩ := hv.int_inv
    refine call_range_1 ?_
    obtain ⟨R', g'⟩ := R.grow1 { cls := .type "range", data := .fields #[.int 0 s.toks, .int _ t, .int 1 (s.toks + 1)] }
    exact ok _ _ _ _ _ _ h2 R' g' (.rng (IsRange.new ..) (small_of (by omega) h1))
  · obtain ⟨⟨h0, h1⟩, h2⟩ := hT
    obtain ⟨a, c, rfl, hv, hc⟩ := hall.two_inv
    obtain ⟨t, rfl⟩ := hv.int_inv; obtain ⟨u, rfl⟩ := hc.int_inv
    refine call_range_2 ?_
    obtain ⟨R', g'⟩ := R.grow1 { cls := .type "range", data := .fields #[.int _ t, .int _ u, .int 1 s.toks] }
    exact ok _ _ _ _ _ _ h2 R' g' (.rng (IsRange.new ..) (small_of h0 h1))
  · exact hT.elim

/-! append -/
noncomputable def appendT : Contract := fun vs σ K => match vs with
  | [.ref i, v] => ∃ xs, σ[i]? = some (.lst xs) ∧ xs.length ≤ 1000000 ∧ K (.val (.d .none) (σ.set i (.lst (xs ++ [v]))))
  | _ => False

theorem valid_append : ValidM X k "list" ("append" : Str) appendT := by
  refine ⟨"list.append", F.plainAttrs_list, slot_list_append, type_list_append, ?_⟩
  intro vs σ K hT A s ρ vals Q E ar R hall ok er
  unfold appendT at hT
  split at hT
  · rename_i i v
    obtain ⟨xs, h1, h2, h3⟩ := hT
    obtain ⟨a, c, rfl, hv, hc⟩ := hall.two_inv
    obtain ⟨_, rfl⟩ := hv.ref_inv
    obtain ⟨its, ⟨n, e⟩, ha⟩ := R.cell _ _ h1
    have ha : HasAll X σ.length ρ s.heap xs its := ha
    refine wpAny_list_append_plain ⟨n, e⟩ (fun h' hp hsb => ?_) (by rw [List.size_toArray, sizeLine_eq, ← ha.length]; omega)
    obtain ⟨n', hp⟩ := hp
    have hp' : h'.get? (ρ i) = some { cls := .type "list", data := .seq (its ++ [c]).toArray n' } := by simpa using hp
    obtain ⟨R', g'⟩ := R.setCell h1 hsb hp' (ha.append (.one hc))
    exact ok _ _ _ _ _ s.toks h3 R' g' .ofNone
  · exact hT.elim
end
end Mine

set_option Elab.async false
set_option autoImplicit false
set_option linter.unusedVariables false
namespace Mine
open PySem PySem.Spec PySem.Calls PyProof.Rows

theorem ofString_inj {a b : String} : Str.ofString a = Str.ofString b ↔ a = b := by
  constructor
  · intro h
    rw [Str.ofString_eq_toList, Str.ofString_eq_toList] at h
    have h1 : (a.toList.map Char.toNat).toArray = (b.toList.map Char.toNat).toArray := by injection h
    have h2 : a.toList.map Char.toNat = b.toList.map Char.toNat := by simpa using h1
    have h3 : a.toList = b.toList := (List.map_inj_right (f := Char.toNat) fun x y q => by
      have : x.val = y.val := UInt32.toNat_inj.mp q
      exact Char.ext this).mp h2
    exact String.toList_inj.mp h3
  · rintro rfl; rfl
theorem ofString_beq {a b : String} : (Str.ofString a == Str.ofString b) = (a == b) := by
  rw [Bool.eq_iff_iff, beq_iff_eq, beq_iff_eq, ofString_inj]

/-- a table of contracts -/
noncomputable def Tab := List (Str × Contract)

theorem cx_of_top {p prog : Program} {w : World} {loose : List Str} {mean : ExcName → Option Value} {mg mb : Str → Option Value} {h : Heap} (T : Top p loose mean mg mb h) : CxOk ⟨prog, w, h, mg, mb⟩ := ⟨T.g, T.b, T.nolimit⟩

theorem boot_table : (biTable.all fun q => (bootBuiltins q.1 == some q.2) && q.1 != ("__name__" : Str)) = true := by decide +kernel

noncomputable def freeB (p : Program) (loose : List Str) (x : Str) : Bool :=
  !startupNames.contains x && !loose.contains x && !((recsOf p).map (·.name)).contains x && !((litsOf p).map (·.1)).contains x && !((clssOf p loose).map (·.name)).contains x

theorem free_of_top {p : Program} {loose : List Str} {mean : ExcName → Option Value} {mg mb : Str → Option Value} {h : Heap} (T : Top p loose mean mg mb h) {x : Str} (hx : freeB p loose x = true) : mg x = none := by
  unfold freeB at hx
  simp only [Bool.and_eq_true, Bool.not_eq_true', List.contains_eq_mem, decide_eq_false_iff_not] at hx
  obtain ⟨⟨⟨⟨h1, h2⟩, h3⟩, h4⟩, h5⟩ := hx
  exact T.free x h1 h2 h3 h4 h5

theorem cxb_of_top {p prog : Program} {w : World} {loose : List Str} {mean : ExcName → Option Value} {mg mb : Str → Option Value} {h : Heap} (T : Top p loose mean mg mb h)
    (hf : (biTable.all fun q => freeB p loose q.1) = true) : CxB ⟨prog, w, h, mg, mb⟩ := by
  intro q hq
  have h1 := List.all_eq_true.mp hf q hq
  have h2 := List.all_eq_true.mp boot_table q hq
  simp only [Bool.and_eq_true, beq_iff_eq, bne_iff_ne, ne_eq] at h2
  show (mg q.1).or (mb q.1) = _
  rw [free_of_top T h1]
  show mb q.1 = _
  rw [T.builtins q.1 h2.2]
  exact h2.1

theorem isFn_of_top {p prog : Program} {w : World} {loose : List Str} {mean : ExcName → Option Value} {mg mb : Str → Option Value} {h : Heap} (T : Top p loose mean mg mb h) {f : Str} {params : Arguments} {body : List Stmt} {scope : Scope} (j : Nat)
    (hr : ((recsOf p)[j]?).map (fun r => (r.name, r.params, r.body, r.scope)) = some (f, params, body, scope)) (h1 : params.posonlyargs = []) (h2 : params.vararg = none) (h3 : params.kwonlyargs = []) (h4 : params.kwarg = none) :
    IsFn ⟨prog, w, h, mg, mb⟩ f (params.args.map (·.arg)) body scope := by
  cases e : (recsOf p)[j]? with
  | none => rw [e] at hr; cases hr
  | some r =>
    rw [e] at hr
    obtain ⟨e1, e2, e3, e4⟩ : r.name = f ∧ r.params = params ∧ r.body = body ∧ r.scope = scope := by
      have := Option.some.inj hr
      simp only [Prod.mk.injEq] at this
      exact this
    obtain ⟨a, o, pm, code, doc, q1, q2, q3, q4⟩ := T.fn _ (List.mem_of_getElem? e)
    rw [e1, e2, e3, e4] at q3
    rw [e1] at q1 q4
    exact ⟨⟨a, o, pm, code, doc, params, q1, q2, q3, q4, h1, rfl, h2, h3, h4⟩⟩

theorem const_of_top {p prog : Program} {w : World} {loose : List Str} {mean : ExcName → Option Value} {mg mb : Str → Option Value} {h : Heap} (T : Top p loose mean mg mb h) {x : Str} {d : PyData} (hv : valOf p x = some d) :
    ∃ v, Cx.val ⟨prog, w, h, mg, mb⟩ x = some v ∧ ∀ h, Reads h v d [] := by
  obtain ⟨v, h1, h2⟩ := T.const x d hv
  exact ⟨v, by show (mg x).or (mb x) = _; rw [h1]; rfl, h2⟩
end Mine

set_option Elab.async false
set_option autoImplicit false
set_option linter.unusedVariables false
namespace Mine
open PySem PySem.Spec PySem.Calls PyProof.Rows

section
variable {Γ : Sig} {n : Nat} {sc : Kinds} {m : Loc} {σ : Store} {K : OutE → Prop} {f : Bool → Store → Prop} {p q : Pos}

theorem wpE_Constant {c : Const} {u : Nat} : wpE Γ (n + 1) sc (.Constant c u p) m σ K = constW c σ K := rfl
theorem wpE_Name {x : Str} : wpE Γ (n + 1) sc (.Name x p) m σ K = nameW Γ sc x m σ K := rfl
theorem wpE_BinOp {l r : Expr} {op : Operator} : wpE Γ (n + 1) sc (.BinOp l op r p) m σ K = wpE Γ n sc l m σ (thenE K fun a σ => wpE Γ n sc r m σ (thenE K fun b σ => binW op a b σ K)) := rfl
theorem wpE_UnaryOp {x : Expr} {op : UnaryOp} : wpE Γ (n + 1) sc (.UnaryOp op x p) m σ K = wpE Γ n sc x m σ (thenE K fun a σ => unW op a σ K) := rfl
theorem wpE_BoolOp {vs : List Expr} {op : BoolOp} : wpE Γ (n + 1) sc (.BoolOp op vs p) m σ K = wpBools (wpE Γ n sc) op vs m σ K := rfl
theorem wpE_Compare {l : Expr} {ops : List CmpOp} {rs : List Expr} : wpE Γ (n + 1) sc (.Compare l ops rs p) m σ K = wpE Γ n sc l m σ (thenE K fun a σ => wpCmps (wpE Γ n sc) ops rs a m σ K fun r σ => K (.val (.d (.bool r)) σ)) := rfl
theorem wpT_Compare {l : Expr} {ops : List CmpOp} {rs : List Expr} : wpT Γ (n + 1) sc (.Compare l ops rs p) m σ K f = wpE Γ n sc l m σ (thenE K fun a σ => wpCmps (wpE Γ n sc) ops rs a m σ K f) := rfl
theorem wpT_BoolOp {vs : List Expr} {op : BoolOp} : wpT Γ (n + 1) sc (.BoolOp op vs p) m σ K f = wpAll (wpT Γ n sc) op vs m σ K f := rfl
theorem wpT_Not {x : Expr} : wpT Γ (n + 1) sc (.UnaryOp .Not x p) m σ K f = wpT Γ n sc x m σ K fun b σ => f (!b) σ := rfl
theorem wpT_Call {g : Expr} {args : List Expr} {kws : List Keyword} : wpT Γ (n + 1) sc (.Call g args kws p) m σ K f = wpE Γ n sc (.Call g args kws p) m σ (thenE K fun v σ => ∃ b, truthW v = some b ∧ f b σ) := rfl
theorem wpT_Name {x : Str} : wpT Γ (n + 1) sc (.Name x p) m σ K f = wpE Γ n sc (.Name x p) m σ (thenE K fun v σ => ∃ b, truthW v = some b ∧ f b σ) := rfl
theorem wpE_CallName {x : Str} {args : List Expr} : wpE Γ (n + 1) sc (.Call (.Name x q) args [] p) m σ K = (sc x = some .globalImplicit ∧ Γ.const x = none ∧ ∃ T, Γ.fn x = some T ∧ args.all noStar = true ∧ wpEs (wpE Γ n sc) args m σ K fun vs σ => T vs σ K) := rfl

theorem wpE_List {es : List Expr} : wpE Γ (n + 1) sc (.List es p) m σ K = (es.all noStar = true ∧ wpEs (wpE Γ n sc) es m σ K fun vs σ => vs.length ≤ 1000000 ∧ K (.val (.ref σ.length) (σ ++ [.lst vs]))) := rfl
theorem wpE_Tuple {es : List Expr} {b : _} : wpE Γ (n + 1) sc (.Tuple es b p) m σ K = (es.all noStar = true ∧ wpEs (wpE Γ n sc) es m σ K fun vs σ => ∃ ds, vs = ds.map V.d ∧ ds.length ≤ 1000000 ∧ K (.val (.d (.tuple ds)) σ)) := rfl
theorem wpE_Slice {a : Expr} {lo hi st : Option Expr} : wpE Γ (n + 1) sc (.Subscript a (.Slice lo hi st q) p) m σ K = (st = none ∧ wpE Γ n sc a m σ (thenE K fun o σ => wpO (wpE Γ n sc) lo m σ K fun l σ => wpO (wpE Γ n sc) hi m σ K fun u σ => sliceW o l u σ K)) := rfl
theorem wpE_Item {a i : Expr} (h : noSlice i = true) : wpE Γ (n + 1) sc (.Subscript a i p) m σ K = wpE Γ n sc a m σ (thenE K fun o σ => wpE Γ n sc i m σ (thenE K fun j σ => itemW o j σ K)) := by cases i <;> first | rfl | cases h
theorem wpE_ItemC {a : Expr} {c : Const} {u : Nat} : wpE Γ (n + 1) sc (.Subscript a (.Constant c u q) p) m σ K = wpE Γ n sc a m σ (thenE K fun o σ => wpE Γ n sc (.Constant c u q) m σ (thenE K fun j σ => itemW o j σ K)) := rfl
theorem wpE_ItemN {a : Expr} {x : Str} : wpE Γ (n + 1) sc (.Subscript a (.Name x q) p) m σ K = wpE Γ n sc a m σ (thenE K fun o σ => wpE Γ n sc (.Name x q) m σ (thenE K fun j σ => itemW o j σ K)) := rfl
theorem wpE_ItemB {a l r : Expr} {op : Operator} : wpE Γ (n + 1) sc (.Subscript a (.BinOp l op r q) p) m σ K = wpE Γ n sc a m σ (thenE K fun o σ => wpE Γ n sc (.BinOp l op r q) m σ (thenE K fun j σ => itemW o j σ K)) := rfl
theorem wpE_ItemU {a x : Expr} {op : UnaryOp} : wpE Γ (n + 1) sc (.Subscript a (.UnaryOp op x q) p) m σ K = wpE Γ n sc a m σ (thenE K fun o σ => wpE Γ n sc (.UnaryOp op x q) m σ (thenE K fun j σ => itemW o j σ K)) := rfl
theorem wpE_ItemS {a b c : Expr} : wpE Γ (n + 1) sc (.Subscript a (.Subscript b c q) p) m σ K = wpE Γ n sc a m σ (thenE K fun o σ => wpE Γ n sc (.Subscript b c q) m σ (thenE K fun j σ => itemW o j σ K)) := rfl
theorem wpE_ItemF {a g : Expr} {args : List Expr} {kws : List Keyword} : wpE Γ (n + 1) sc (.Subscript a (.Call g args kws q) p) m σ K = wpE Γ n sc a m σ (thenE K fun o σ => wpE Γ n sc (.Call g args kws q) m σ (thenE K fun j σ => itemW o j σ K)) := rfl
theorem wpE_CallMeth {o : Expr} {name : Str} {args : List Expr} : wpE Γ (n + 1) sc (.Call (.Attribute o name q) args [] p) m σ K = ((noSuper o = true ∧ (q.endLine == p.line) = true ∧ args.all noStar = true ∧ args.length < 20) ∧ wpE Γ n sc o m σ (thenE K fun ov σ => ∃ ty T, methTy σ ov = some ty ∧ Γ.meth ty name = some T ∧
          wpEs (wpE Γ n sc) args m σ K fun vs σ => T (ov :: vs) σ K)) := rfl
theorem wpE_ListComp {elt iter : Expr} {x : Str} {ifs : List Expr} {a : Int} {scope : Scope} : wpE Γ (n + 1) sc (.ListComp elt [⟨.Name x q, iter, ifs, a⟩] scope p) m σ K = (a = 0 ∧ noSet iter = true ∧ compOkB sc scope x = true ∧
        wpE Γ n sc iter m σ (thenE K fun src σ => ∃ (N : Nat) (I : Nat → List V → Store → Prop), N ≤ 1000000 ∧ I 0 [] σ ∧
          (∀ k acc σ, k < N → I k acc σ → ∃ v, srcNext σ src k = some (some v) ∧ acc.length ≤ k ∧
            wpIfs (wpT Γ n (kindsOf scope.names)) ifs (upd (compLoc scope.names m) x v) σ (fun _ => False) fun b σ => if b then wpE Γ n (kindsOf scope.names) elt (upd (compLoc scope.names m) x v) σ (noExn fun w σ => I (k + 1) (acc ++ [w]) σ) else I (k + 1) acc σ) ∧
          (∀ acc σ, I N acc σ → srcNext σ src N = some none ∧ K (.val (.ref σ.length) (σ ++ [.lst acc]))))) := rfl
theorem wpSs_nil {sv : Sv} {K : OutS → Prop} : wpSs sv [] m σ K = K (.next m σ) := rfl
theorem wpSs_cons {sv : Sv} {s : Stmt} {r : List Stmt} {K : OutS → Prop} : wpSs sv (s :: r) m σ K = sv s m σ (loopS K fun m σ => wpSs sv r m σ K) := rfl
theorem wpS_Pass {K : OutS → Prop} : wpS Γ (n + 1) sc (.Pass p) m σ K = K (.next m σ) := rfl
theorem wpS_Return {e : Expr} {K : OutS → Prop} : wpS Γ (n + 1) sc (.Return (some e) p) m σ K = wpE Γ n sc e m σ (thenE (liftS K m) fun v σ => K (.ret v σ)) := rfl
theorem wpS_Assign {x : Str} {e : Expr} {K : OutS → Prop} : wpS Γ (n + 1) sc (.Assign [.Name x q] e p) m σ K = (bindable sc x ∧ wpE Γ n sc e m σ (thenE (liftS K m) fun v σ => K (.next (upd m x v) σ))) := rfl
theorem wpS_SetItem {o i e : Expr} {K : OutS → Prop} : wpS Γ (n + 1) sc (.Assign [.Subscript o i q] e p) m σ K = (noComp e = true ∧ noSlice i = true ∧ wpE Γ n sc e m σ (thenE (liftS K m) fun w σ => wpE Γ n sc o m σ (thenE (liftS K m) fun ov σ => wpE Γ n sc i m σ (thenE (liftS K m) fun iv σ => setW ov iv w σ fun σ => K (.next m σ))))) := rfl
theorem wpS_Expr {e : Expr} {K : OutS → Prop} : wpS Γ (n + 1) sc (.Expr e p) m σ K = (noComp e = true ∧ wpE Γ n sc e m σ (thenE (liftS K m) fun _ σ => K (.next m σ))) := rfl
theorem wpS_If {t : Expr} {b e : List Stmt} {K : OutS → Prop} : wpS Γ (n + 1) sc (.If t b e p) m σ K = wpT Γ n sc t m σ (liftS K m) fun c σ => (c = true → wpSs (wpS Γ n sc) b m σ K) ∧ (c = false → wpSs (wpS Γ n sc) e m σ K) := rfl
theorem wpS_For {x : Str} {it : Expr} {body : List Stmt} {K : OutS → Prop} : wpS Γ (n + 1) sc (.For (.Name x q) it body [] p) m σ K = (bindable sc x ∧ noSet it = true ∧ wpE Γ n sc it m σ (thenE (liftS K m) fun src σ => ∃ (N : Nat) (I : Nat → Loc → Store → Prop), I 0 m σ ∧
          (∀ k m σ, k < N → I k m σ → ∃ v, srcNext σ src k = some (some v) ∧ wpSs (wpS Γ n sc) body (upd m x v) σ (loopN K (I (k + 1)))) ∧
          (∀ m σ, I N m σ → srcNext σ src N = some none ∧ K (.next m σ)))) := rfl
theorem wpS_While {t : Expr} {body : List Stmt} {K : OutS → Prop} : wpS Γ (n + 1) sc (.While t body [] p) m σ K = ∃ (I : Nat → Loc → Store → Prop), (∃ N, I N m σ) ∧ ∀ N m σ, I N m σ →
          wpT Γ n sc t m σ (fun _ => False) fun c σ => (c = true → wpSs (wpS Γ n sc) body m σ (loopN K fun m σ => ∃ N', N' < N ∧ I N' m σ)) ∧ (c = false → K (.next m σ)) := rfl
theorem noExn_val {g : V → Store → Prop} {v : V} : noExn g (.val v σ) = g v σ := rfl
theorem thenE_val {g : V → Store → Prop} {v : V} : thenE K g (.val v σ) = g v σ := rfl
theorem loopS_next {K : OutS → Prop} {J : Loc → Store → Prop} : loopS K J (.next m σ) = J m σ := rfl
theorem loopS_ret {K : OutS → Prop} {J : Loc → Store → Prop} {v : V} : loopS K J (.ret v σ) = K (.ret v σ) := rfl
theorem loopN_next {K : OutS → Prop} {J : Loc → Store → Prop} : loopN K J (.next m σ) = J m σ := rfl
theorem loopN_ret {K : OutS → Prop} {J : Loc → Store → Prop} {v : V} : loopN K J (.ret v σ) = K (.ret v σ) := rfl
end

theorem ValidF.mono {X : Cx} {k k' : Nat} {x : Str} {T : Contract} (hk : k ≤ k') (h : ValidF X k x T) : ValidF X k' x T := by
  obtain ⟨f, h1, h2, h3⟩ := h
  refine ⟨f, h1, h2, fun vs σ K hT A s ρ vals Q E ar => h3 vs σ K hT A s ρ vals Q E ?_⟩
  exact { ar with
    depth := by have := ar.depth; omega
    units := by have := ar.units; omega }
theorem ValidM.mono {X : Cx} {k k' : Nat} {ty : String} {x : Str} {T : Contract} (hk : k ≤ k') (h : ValidM X k ty x T) : ValidM X k' ty x T := by
  obtain ⟨f, h1, h2, h2', h3⟩ := h
  refine ⟨f, h1, h2, h2', fun vs σ K hT A s ρ vals Q E ar => h3 vs σ K hT A s ρ vals Q E ?_⟩
  exact { ar with
    depth := by have := ar.depth; omega
    units := by have := ar.units; omega }

noncomputable def Sig.add (Γ : Sig) (x : Str) (T : Contract) : Sig := { Γ with fn := fun y => if y = x then some T else Γ.fn y }

theorem SigOk.add {X : Cx} {k : Nat} {Γ : Sig} {x : Str} {T : Contract} (ok : SigOk X k Γ) (h : ValidF X (k + 1) x T) : SigOk X (k + 1) (Γ.add x T) where
  fn := fun y S hy => by
    unfold Sig.add at hy
    dsimp only at hy
    split at hy
    · rename_i e; cases hy; rw [e]; exact h
    · exact (ok.fn y S hy).mono (Nat.le_succ k)
  const := ok.const
  knows := ok.knows
  meth := fun ty nm S hy => (ok.meth ty nm S hy).mono (Nat.le_succ k)
end Mine

set_option Elab.async false
set_option autoImplicit false
set_option linter.unusedVariables false
namespace Mine
open PySem PySem.Spec PySem.Calls PyProof.Rows

noncomputable def emptySig (consts : List (Str × PyData)) : Sig where
  fn := fun _ => none
  meth := fun ty x => if ty = "list" ∧ x = ("append" : Str) then some appendT else none
  const := fun x => consts.lookup x
  knows := fun x => if x = ("int" : Str) then true else if x = ("bool" : Str) then true else if x = ("str" : Str) then true else if x = ("tuple" : Str) then true else if x = ("list" : Str) then true else false
  kin := fun _ => none

noncomputable def baseSig (consts : List (Str × PyData)) : Sig :=
  ((((((((emptySig consts).add ("len" : Str) lenT).add ("isinstance" : Str) isiT).add ("sum" : Str) sumT).add ("min" : Str) minT).add ("max" : Str) maxT).add ("abs" : Str) absT).add ("list" : Str) listT).add ("range" : Str) rangeT

theorem baseSig_ok {X : Cx} {consts : List (Str × PyData)} (b : CxB X) (hc : ∀ q ∈ consts, ∃ v, X.val q.1 = some v ∧ ∀ h, Reads h v q.2 []) : SigOk X 8 (baseSig consts) := by
  have h0 : SigOk X 0 (emptySig consts) := {
    fn := fun x T h => by cases h
    const := fun x d h => hc (x, d) (mem_lookup h)
    knows := fun x h => by
      unfold emptySig at h
      dsimp only at h
      split at h
      · rename_i e; exact ⟨_, by rw [e]; exact b ("int", .type "int") (by simp [biTable])⟩
      · split at h
        · rename_i e; exact ⟨_, by rw [e]; exact b ("bool", .type "bool") (by simp [biTable])⟩
        · split at h
          · rename_i e; exact ⟨_, by rw [e]; exact b ("str", .type "str") (by simp [biTable])⟩
          · split at h
            · rename_i e; exact ⟨_, by rw [e]; exact b ("tuple", .type "tuple") (by simp [biTable])⟩
            · split at h
              · rename_i e; exact ⟨_, by rw [e]; exact b ("list", .type "list") (by simp [biTable])⟩
              · cases h
    meth := fun ty x T h => by
      unfold emptySig at h
      dsimp only at h
      split at h
      · rename_i e; obtain ⟨rfl, rfl⟩ := e; cases h; exact valid_append
      · cases h }
  exact (((((((h0.add (valid_len b)).add (valid_isi b)).add (valid_sum b)).add (valid_min b)).add (valid_max b)).add (valid_abs b)).add (valid_list b)).add (valid_range b)
end Mine

set_option Elab.async false
set_option autoImplicit false
set_option linter.unusedVariables false
namespace Mine
open PySem PySem.Spec PySem.Calls PyProof.Rows

noncomputable def isLocB (sc : Kinds) (x : Str) : Bool := match sc x with
  | some .local | some .cell | some .free => true
  | _ => false
noncomputable def isGlobB (sc : Kinds) (x : Str) : Bool := match sc x with
  | some .globalImplicit => true
  | _ => false
noncomputable def isBindB (sc : Kinds) (x : Str) : Bool := match sc x with
  | some .local | some .cell => true
  | _ => false
theorem isGlob {sc : Kinds} {x : Str} (h : isGlobB sc x = true) : sc x = some .globalImplicit := by
  unfold isGlobB at h; split at h <;> first | assumption | cases h
theorem isBind {sc : Kinds} {x : Str} (h : isBindB sc x = true) : bindable sc x := by
  unfold isBindB at h; split at h <;> first | exact .inl (by assumption) | exact .inr (by assumption) | cases h

theorem upd_eq {m : Loc} {x : Str} {v : V} : upd m x v x = some v := if_pos rfl
theorem upd_ne {m : Loc} {x y : Str} {v : V} {r : Option V} (h : (y == x) = false) (hr : m y = r) : upd m x v y = r := by
  unfold upd; rw [if_neg (fun e => by rw [e] at h; simp at h)]; exact hr
theorem look_eq {x : Str} {v : V} {xs : List Str} {vs : List V} : (List.lookup x (List.zip (x :: xs) (v :: vs))) = some v := by
  rw [List.zip_cons_cons, List.lookup_cons, beq_self_eq_true]
theorem look_ne {x y : Str} {v : V} {xs : List Str} {vs : List V} {r : Option V} (h : (y == x) = false) (hr : List.lookup y (List.zip xs vs) = r) : (List.lookup y (List.zip (x :: xs) (v :: vs))) = r := by
  rw [List.zip_cons_cons, List.lookup_cons, h]; exact hr
theorem comp_free {names : List (Str × NameKind)} {m : Loc} {y : Str} {r : Option V} (h : (names.lookup y == some .free) = true) (hr : m y = r) : compLoc names m y = r := by
  unfold compLoc; rw [beq_iff_eq.mp h]; exact hr

section
variable {Γ : Sig} {n : Nat} {sc : Kinds} {m : Loc} {σ : Store} {K : OutE → Prop} {f : Bool → Store → Prop} {p q : Pos}

theorem r_thenE {g : V → Store → Prop} {v : V} (h : g v σ) : thenE K g (.val v σ) := h
theorem r_noExn {g : V → Store → Prop} {v : V} (h : g v σ) : noExn g (.val v σ) := h
theorem r_next {K : OutS → Prop} {J : Loc → Store → Prop} (h : J m σ) : loopS K J (.next m σ) := h
theorem r_ret {K : OutS → Prop} {J : Loc → Store → Prop} {v : V} (h : K (.ret v σ)) : loopS K J (.ret v σ) := h
theorem r_nextN {K : OutS → Prop} {J : Loc → Store → Prop} (h : J m σ) : loopN K J (.next m σ) := h
theorem r_retN {K : OutS → Prop} {J : Loc → Store → Prop} {v : V} (h : K (.ret v σ)) : loopN K J (.ret v σ) := h
theorem r_nil {sv : Sv} {K : OutS → Prop} (h : K (.next m σ)) : wpSs sv [] m σ K := h
theorem r_cons {sv : Sv} {s : Stmt} {r : List Stmt} {K : OutS → Prop} (h : sv s m σ (loopS K fun m σ => wpSs sv r m σ K)) : wpSs sv (s :: r) m σ K := h

theorem r_Return {e : Expr} {K : OutS → Prop} (h : wpE Γ n sc e m σ (thenE (liftS K m) fun v σ => K (.ret v σ))) : wpS Γ (n + 1) sc (.Return (some e) p) m σ K := h
theorem r_Assign {x : Str} {e : Expr} {K : OutS → Prop} (hb : isBindB sc x = true) (h : wpE Γ n sc e m σ (thenE (liftS K m) fun v σ => K (.next (upd m x v) σ))) : wpS Γ (n + 1) sc (.Assign [.Name x q] e p) m σ K := ⟨isBind hb, h⟩
theorem r_SetItem {o i e : Expr} {K : OutS → Prop} (h1 : noComp e = true) (h2 : noSlice i = true) (h : wpE Γ n sc e m σ (thenE (liftS K m) fun w σ => wpE Γ n sc o m σ (thenE (liftS K m) fun ov σ => wpE Γ n sc i m σ (thenE (liftS K m) fun iv σ => setW ov iv w σ fun σ => K (.next m σ))))) :
    wpS Γ (n + 1) sc (.Assign [.Subscript o i q] e p) m σ K := ⟨h1, h2, h⟩
theorem r_Expr {e : Expr} {K : OutS → Prop} (h1 : noComp e = true) (h : wpE Γ n sc e m σ (thenE (liftS K m) fun _ σ => K (.next m σ))) : wpS Γ (n + 1) sc (.Expr e p) m σ K := ⟨h1, h⟩
theorem r_If {t : Expr} {b e : List Stmt} {K : OutS → Prop} (h : wpT Γ n sc t m σ (liftS K m) fun c σ => (c = true → wpSs (wpS Γ n sc) b m σ K) ∧ (c = false → wpSs (wpS Γ n sc) e m σ K)) : wpS Γ (n + 1) sc (.If t b e p) m σ K := h
theorem r_For {x : Str} {it : Expr} {body : List Stmt} {K : OutS → Prop} (hb : isBindB sc x = true) (hn : noSet it = true) (h : wpE Γ n sc it m σ (thenE (liftS K m) fun src σ => ∃ (N : Nat) (I : Nat → Loc → Store → Prop), I 0 m σ ∧
          (∀ k m σ, k < N → I k m σ → ∃ v, srcNext σ src k = some (some v) ∧ wpSs (wpS Γ n sc) body (upd m x v) σ (loopN K (I (k + 1)))) ∧
          (∀ m σ, I N m σ → srcNext σ src N = some none ∧ K (.next m σ)))) : wpS Γ (n + 1) sc (.For (.Name x q) it body [] p) m σ K := ⟨isBind hb, hn, h⟩

theorem r_none {u : Nat} (h : K (.val (.d .none) σ)) : wpE Γ (n + 1) sc (.Constant .none u p) m σ K := h
theorem r_bool {u : Nat} {b : Bool} (h : K (.val (.d (.bool b)) σ)) : wpE Γ (n + 1) sc (.Constant (.bool b) u p) m σ K := h
theorem r_int {u : Nat} {b : Int} (h : K (.val (.d (.int b)) σ)) : wpE Γ (n + 1) sc (.Constant (.int b) u p) m σ K := h
theorem r_str {u : Nat} {b : Str} (h : K (.val (.d (.str b)) σ)) : wpE Γ (n + 1) sc (.Constant (.str b) u p) m σ K := h
theorem r_name {x : Str} {v : V} (h1 : isLocB sc x = true) (h2 : m x = some v) (h : K (.val v σ)) : wpE Γ (n + 1) sc (.Name x p) m σ K := by
  show nameW Γ sc x m σ K
  unfold isLocB at h1; unfold nameW
  split at h1
  · rename_i e; rw [e]; exact ⟨v, h2, h⟩
  · rename_i e; rw [e]; exact ⟨v, h2, h⟩
  · rename_i e; rw [e]; exact ⟨v, h2, h⟩
  · cases h1
theorem r_const {x : Str} {d : PyData} (h1 : isGlobB sc x = true) (h2 : Γ.const x = some d) (h : K (.val (.d d) σ)) : wpE Γ (n + 1) sc (.Name x p) m σ K := by
  show nameW Γ sc x m σ K
  unfold nameW; rw [isGlob h1]; dsimp only; rw [h2]; exact h
theorem r_glob {x : Str} (h1 : isGlobB sc x = true) (h2 : Γ.const x = none) (h3 : Γ.knows x = true) (h : K (.val (.glob x) σ)) : wpE Γ (n + 1) sc (.Name x p) m σ K := by
  show nameW Γ sc x m σ K
  unfold nameW; rw [isGlob h1]; dsimp only; rw [h2]; exact ⟨h3, h⟩
theorem r_BinOp {l r : Expr} {op : Operator} (h : wpE Γ n sc l m σ (thenE K fun a σ => wpE Γ n sc r m σ (thenE K fun b σ => binW op a b σ K))) : wpE Γ (n + 1) sc (.BinOp l op r p) m σ K := h
theorem r_UnaryOp {x : Expr} {op : UnaryOp} (h : wpE Γ n sc x m σ (thenE K fun a σ => unW op a σ K)) : wpE Γ (n + 1) sc (.UnaryOp op x p) m σ K := h
theorem r_BoolOp {vs : List Expr} {op : BoolOp} (h : wpBools (wpE Γ n sc) op vs m σ K) : wpE Γ (n + 1) sc (.BoolOp op vs p) m σ K := h
theorem r_Compare {l : Expr} {ops : List CmpOp} {rs : List Expr} (h : wpE Γ n sc l m σ (thenE K fun a σ => wpCmps (wpE Γ n sc) ops rs a m σ K fun r σ => K (.val (.d (.bool r)) σ))) : wpE Γ (n + 1) sc (.Compare l ops rs p) m σ K := h
theorem r_List {es : List Expr} (h1 : es.all noStar = true) (h : wpEs (wpE Γ n sc) es m σ K fun vs σ => vs.length ≤ 1000000 ∧ K (.val (.ref σ.length) (σ ++ [.lst vs]))) : wpE Γ (n + 1) sc (.List es p) m σ K := ⟨h1, h⟩
theorem r_Tuple {es : List Expr} {b : _} (h1 : es.all noStar = true) (h : wpEs (wpE Γ n sc) es m σ K fun vs σ => ∃ ds, vs = ds.map V.d ∧ ds.length ≤ 1000000 ∧ K (.val (.d (.tuple ds)) σ)) : wpE Γ (n + 1) sc (.Tuple es b p) m σ K := ⟨h1, h⟩
theorem r_Slice {a : Expr} {lo hi : Option Expr} (h : wpE Γ n sc a m σ (thenE K fun o σ => wpO (wpE Γ n sc) lo m σ K fun l σ => wpO (wpE Γ n sc) hi m σ K fun u σ => sliceW o l u σ K)) : wpE Γ (n + 1) sc (.Subscript a (.Slice lo hi none q) p) m σ K := ⟨rfl, h⟩
theorem r_Item {a i : Expr} (h1 : noSlice i = true) (h : wpE Γ n sc a m σ (thenE K fun o σ => wpE Γ n sc i m σ (thenE K fun j σ => itemW o j σ K))) : wpE Γ (n + 1) sc (.Subscript a i p) m σ K := by rw [wpE_Item h1]; exact h
theorem r_Call {x : Str} {args : List Expr} {T : Contract} (h1 : isGlobB sc x = true) (h2 : Γ.const x = none) (h3 : Γ.fn x = some T) (h4 : args.all noStar = true) (h : wpEs (wpE Γ n sc) args m σ K fun vs σ => T vs σ K) : wpE Γ (n + 1) sc (.Call (.Name x q) args [] p) m σ K := ⟨isGlob h1, h2, T, h3, h4, h⟩
theorem r_Meth {o : Expr} {name : Str} {args : List Expr} (h1 : noSuper o = true) (h2 : (q.endLine == p.line) = true) (h3 : args.all noStar = true) (h4 : args.length < 20)
    (h : wpE Γ n sc o m σ (thenE K fun ov σ => ∃ ty T, methTy σ ov = some ty ∧ Γ.meth ty name = some T ∧ wpEs (wpE Γ n sc) args m σ K fun vs σ => T (ov :: vs) σ K)) : wpE Γ (n + 1) sc (.Call (.Attribute o name q) args [] p) m σ K := ⟨⟨h1, h2, h3, h4⟩, h⟩
theorem r_Comp {elt iter : Expr} {x : Str} {ifs : List Expr} {scope : Scope} (h1 : noSet iter = true) (h2 : compOkB sc scope x = true)
    (h : wpE Γ n sc iter m σ (thenE K fun src σ => ∃ (N : Nat) (I : Nat → List V → Store → Prop), N ≤ 1000000 ∧ I 0 [] σ ∧
          (∀ k acc σ, k < N → I k acc σ → ∃ v, srcNext σ src k = some (some v) ∧ acc.length ≤ k ∧
            wpIfs (wpT Γ n (kindsOf scope.names)) ifs (upd (compLoc scope.names m) x v) σ (fun _ => False) fun b σ => if b then wpE Γ n (kindsOf scope.names) elt (upd (compLoc scope.names m) x v) σ (noExn fun w σ => I (k + 1) (acc ++ [w]) σ) else I (k + 1) acc σ) ∧
          (∀ acc σ, I N acc σ → srcNext σ src N = some none ∧ K (.val (.ref σ.length) (σ ++ [.lst acc]))))) : wpE Γ (n + 1) sc (.ListComp elt [⟨.Name x q, iter, ifs, 0⟩] scope p) m σ K := ⟨rfl, h1, h2, h⟩

theorem r_len {vs : List V} {P : Prop} (h1 : Nat.ble vs.length 1000000 = true) (h : P) : vs.length ≤ 1000000 ∧ P := ⟨Nat.le_of_ble_eq_true h1, h⟩
theorem r_tup1 {a : PyData} (h : K (.val (.d (.tuple [a])) σ)) : ∃ ds, [V.d a] = ds.map V.d ∧ ds.length ≤ 1000000 ∧ K (.val (.d (.tuple ds)) σ) := ⟨[a], rfl, by simp, h⟩
theorem r_tup2 {a b : PyData} (h : K (.val (.d (.tuple [a, b])) σ)) : ∃ ds, [V.d a, V.d b] = ds.map V.d ∧ ds.length ≤ 1000000 ∧ K (.val (.d (.tuple ds)) σ) := ⟨[a, b], rfl, by simp, h⟩
theorem r_tup3 {a b c : PyData} (h : K (.val (.d (.tuple [a, b, c])) σ)) : ∃ ds, [V.d a, V.d b, V.d c] = ds.map V.d ∧ ds.length ≤ 1000000 ∧ K (.val (.d (.tuple ds)) σ) := ⟨[a, b, c], rfl, by simp, h⟩
theorem r_tup4 {a b c d : PyData} (h : K (.val (.d (.tuple [a, b, c, d])) σ)) : ∃ ds, [V.d a, V.d b, V.d c, V.d d] = ds.map V.d ∧ ds.length ≤ 1000000 ∧ K (.val (.d (.tuple ds)) σ) := ⟨[a, b, c, d], rfl, by simp, h⟩
theorem r_onList {l : Nat} {name : Str} {T : Contract} {xs : List V} {g : Contract → Prop} (h1 : itemsAt σ l = some xs) (h2 : Γ.meth "list" name = some T) (h : g T) : ∃ ty T, methTy σ (.ref l) = some ty ∧ Γ.meth ty name = some T ∧ g T :=
  ⟨"list", T, by show (itemsAt σ l).map _ = _; rw [h1]; rfl, h2, h⟩
theorem r_es_nil {ev : Ev} {g : List V → Store → Prop} (h : g [] σ) : wpEs ev [] m σ K g := h
theorem r_es_cons {ev : Ev} {e : Expr} {r : List Expr} {g : List V → Store → Prop} (h : ev e m σ (thenE K fun v σ => wpEs ev r m σ K fun vs σ => g (v :: vs) σ)) : wpEs ev (e :: r) m σ K g := h
theorem r_o_none {ev : Ev} {g : Option Int → Store → Prop} (h : g none σ) : wpO ev none m σ K g := h
theorem r_o_some {ev : Ev} {e : Expr} {g : Option Int → Store → Prop} (h : ev e m σ (thenE K fun v σ => ∃ i, v = .d (.int i) ∧ g (some i) σ)) : wpO ev (some e) m σ K g := h
theorem r_o_int {i : Int} {g : Int → Prop} (h : g i) : ∃ j, V.d (.int i) = .d (.int j) ∧ g j := ⟨i, rfl, h⟩
theorem r_cmp1 {ev : Ev} {op : CmpOp} {e : Expr} {a : V} {g : Bool → Store → Prop} (h1 : behindInMarks op e = false) (h : ev e m σ (thenE K fun b σ => cmpW op a b σ fun r => g r σ)) : wpCmps ev [op] [e] a m σ K g := ⟨h1, h⟩
theorem r_cmp2 {ev : Ev} {op op' : CmpOp} {ops : List CmpOp} {e e' : Expr} {es : List Expr} {a : V} {g : Bool → Store → Prop} (h : ev e m σ (thenE K fun b σ => cmpW op a b σ fun r => if r then wpCmps ev (op' :: ops) (e' :: es) b m σ K g else g false σ)) : wpCmps ev (op :: op' :: ops) (e :: e' :: es) a m σ K g := h
theorem r_lt {i j : Int} {g : Bool → Prop} (h : g (decide (i < j))) : cmpW .Lt (.d (.int i)) (.d (.int j)) σ g := h
theorem r_le {i j : Int} {g : Bool → Prop} (h : g (decide (i ≤ j))) : cmpW .LtE (.d (.int i)) (.d (.int j)) σ g := h
theorem r_gt {i j : Int} {g : Bool → Prop} (h : g (decide (j < i))) : cmpW .Gt (.d (.int i)) (.d (.int j)) σ g := h
theorem r_ge {i j : Int} {g : Bool → Prop} (h : g (decide (j ≤ i))) : cmpW .GtE (.d (.int i)) (.d (.int j)) σ g := h
theorem r_eqI {i j : Int} {g : Bool → Prop} (h : g (decide (i = j))) : cmpW .Eq (.d (.int i)) (.d (.int j)) σ g := ⟨_, _, rfl, rfl, rfl, rfl, h⟩
theorem r_neI {i j : Int} {g : Bool → Prop} (h : g (!decide (i = j))) : cmpW .NotEq (.d (.int i)) (.d (.int j)) σ g := ⟨_, _, rfl, rfl, rfl, rfl, h⟩
theorem shaped_str {x : Str} (h : PyData.strOk x = true) : SeqAt.shaped (.str x) = true := by
  unfold SeqAt.shaped
  rw [Bool.and_eq_true]
  exact ⟨by simpa [PyData.canLay0] using h, by simp [PyData.depth]⟩
theorem r_eqS {i j : Str} {g : Bool → Prop} (h1 : PyData.strOk i = true) (h2 : PyData.strOk j = true) (h : g (i == j)) : cmpW .Eq (.d (.str i)) (.d (.str j)) σ g := ⟨_, _, rfl, rfl, shaped_str h1, shaped_str h2, h⟩
theorem r_neS {i j : Str} {g : Bool → Prop} (h1 : PyData.strOk i = true) (h2 : PyData.strOk j = true) (h : g (!(i == j))) : cmpW .NotEq (.d (.str i)) (.d (.str j)) σ g := ⟨_, _, rfl, rfl, shaped_str h1, shaped_str h2, h⟩
theorem r_eqB {i j : Bool} {g : Bool → Prop} (h : g (i == j)) : cmpW .Eq (.d (.bool i)) (.d (.bool j)) σ g := ⟨_, _, rfl, rfl, rfl, rfl, h⟩
theorem r_neB {i j : Bool} {g : Bool → Prop} (h : g (!(i == j))) : cmpW .NotEq (.d (.bool i)) (.d (.bool j)) σ g := ⟨_, _, rfl, rfl, rfl, rfl, h⟩
theorem r_add {i j : Int} (h : K (.val (.d (.int (i + j))) σ)) : binW .Add (.d (.int i)) (.d (.int j)) σ K := h
theorem r_sub {i j : Int} (h : K (.val (.d (.int (i - j))) σ)) : binW .Sub (.d (.int i)) (.d (.int j)) σ K := h
theorem r_mul {i j : Int} (h1 : IntMulOk i j) (h : K (.val (.d (.int (i * j))) σ)) : binW .Mult (.d (.int i)) (.d (.int j)) σ K := ⟨h1, h⟩
theorem r_div {i j : Int} (h1 : 0 < j ∧ j < 1073741824) (h : K (.val (.d (.int (i / j))) σ)) : binW .FloorDiv (.d (.int i)) (.d (.int j)) σ K := ⟨h1, by rw [Int.fdiv_eq_ediv_of_nonneg _ (by omega)]; exact h⟩
theorem r_mod {i j : Int} (h1 : 0 < j) (h : K (.val (.d (.int (i % j))) σ)) : binW .Mod (.d (.int i)) (.d (.int j)) σ K := ⟨by omega, by rw [Int.fmod_eq_emod_of_nonneg _ (by omega)]; exact h⟩
theorem r_usub {i : Int} (h : K (.val (.d (.int (-i))) σ)) : unW .USub (.d (.int i)) σ K := h
theorem r_not {b : Bool} (h : K (.val (.d (.bool (!b))) σ)) : unW .Not (.d (.bool b)) σ K := ⟨b, rfl, h⟩
theorem r_truth {b : Bool} {g : Bool → Prop} (h : g b) : ∃ c, truthW (.d (.bool b)) = some c ∧ g c := ⟨b, rfl, h⟩
theorem r_itemL {l : Nat} {k : Int} {xs : List V} {v : V} (h1 : itemsAt σ l = some xs) (h2 : 0 ≤ k ∧ k < 2 ^ 63) (h3 : xs[k.toNat]? = some v) (h : K (.val v σ)) : itemW (.ref l) (.d (.int k)) σ K := ⟨xs, v, h1, h2, h3, h⟩
theorem r_itemT {k : Int} {xs : List PyData} {x : PyData} (h2 : 0 ≤ k ∧ k < 2 ^ 63) (h3 : xs[k.toNat]? = some x) (h : K (.val (.d x) σ)) : itemW (.d (.tuple xs)) (.d (.int k)) σ K := ⟨x, h2, h3, h⟩

theorem t_Compare {l : Expr} {ops : List CmpOp} {rs : List Expr} (h : wpE Γ n sc l m σ (thenE K fun a σ => wpCmps (wpE Γ n sc) ops rs a m σ K f)) : wpT Γ (n + 1) sc (.Compare l ops rs p) m σ K f := h
theorem t_BoolOp {vs : List Expr} {op : BoolOp} (h : wpAll (wpT Γ n sc) op vs m σ K f) : wpT Γ (n + 1) sc (.BoolOp op vs p) m σ K f := h
theorem t_Not {x : Expr} (h : wpT Γ n sc x m σ K fun b σ => f (!b) σ) : wpT Γ (n + 1) sc (.UnaryOp .Not x p) m σ K f := h
theorem t_Call {g : Expr} {args : List Expr} {kws : List Keyword} (h : wpE Γ n sc (.Call g args kws p) m σ (thenE K fun v σ => ∃ b, truthW v = some b ∧ f b σ)) : wpT Γ (n + 1) sc (.Call g args kws p) m σ K f := h
theorem t_Name {x : Str} (h : wpE Γ n sc (.Name x p) m σ (thenE K fun v σ => ∃ b, truthW v = some b ∧ f b σ)) : wpT Γ (n + 1) sc (.Name x p) m σ K f := h
theorem t_and_nil {tv : Tv} (h : f true σ) : wpAll tv .And [] m σ K f := h
theorem t_or_nil {tv : Tv} (h : f false σ) : wpAll tv .Or [] m σ K f := h
theorem t_and_cons {tv : Tv} {e : Expr} {r : List Expr} (h : tv e m σ K fun b σ => if b then wpAll tv .And r m σ K f else f false σ) : wpAll tv .And (e :: r) m σ K f := by
  have e : (fun b σ => if b then wpAll tv .And r m σ K f else f false σ : Bool → Store → Prop) = fun b σ => (match BoolOp.And, b with
      | .And, false => f false σ
      | .Or, true => f true σ
      | _, _ => wpAll tv .And r m σ K f) := by funext b σ; cases b <;> rfl
  rw [e] at h; exact h
theorem t_or_cons {tv : Tv} {e : Expr} {r : List Expr} (h : tv e m σ K fun b σ => if b then f true σ else wpAll tv .Or r m σ K f) : wpAll tv .Or (e :: r) m σ K f := by
  have e : (fun b σ => if b then f true σ else wpAll tv .Or r m σ K f : Bool → Store → Prop) = fun b σ => (match BoolOp.Or, b with
      | .And, false => f false σ
      | .Or, true => f true σ
      | _, _ => wpAll tv .Or r m σ K f) := by funext b σ; cases b <;> rfl
  rw [e] at h; exact h
theorem t_if_nil {tv : Tv} (h : f true σ) : wpIfs tv [] m σ K f := h
theorem t_if_one {tv : Tv} {e : Expr} (h : tv e m σ K f) : wpIfs tv [e] m σ K f := h
theorem b_one {ev : Ev} {op : BoolOp} {e : Expr} (h : ev e m σ K) : wpBools ev op [e] m σ K := h
theorem b_and {ev : Ev} {e e' : Expr} {r : List Expr} (h : ev e m σ (thenE K fun v σ => ∃ b, truthW v = some b ∧ (if b then wpBools ev .And (e' :: r) m σ K else K (.val v σ)))) : wpBools ev .And (e :: e' :: r) m σ K := by
  have e : (fun v σ => ∃ b, truthW v = some b ∧ (if b then wpBools ev .And (e' :: r) m σ K else K (.val v σ)) : V → Store → Prop) = fun v σ => ∃ b, truthW v = some b ∧ (match BoolOp.And, b with
      | .And, false | .Or, true => K (.val v σ)
      | _, _ => wpBools ev .And (e' :: r) m σ K) := by funext v σ; congr 1; funext b; cases b <;> rfl
  rw [e] at h; exact h
theorem b_or {ev : Ev} {e e' : Expr} {r : List Expr} (h : ev e m σ (thenE K fun v σ => ∃ b, truthW v = some b ∧ (if b then K (.val v σ) else wpBools ev .Or (e' :: r) m σ K))) : wpBools ev .Or (e :: e' :: r) m σ K := by
  have e : (fun v σ => ∃ b, truthW v = some b ∧ (if b then K (.val v σ) else wpBools ev .Or (e' :: r) m σ K) : V → Store → Prop) = fun v σ => ∃ b, truthW v = some b ∧ (match BoolOp.Or, b with
      | .And, false | .Or, true => K (.val v σ)
      | _, _ => wpBools ev .Or (e' :: r) m σ K) := by funext v σ; congr 1; funext b; cases b <;> rfl
  rw [e] at h; exact h
theorem r_if {b : Bool} {P Q : Prop} (h1 : b = true → P) (h2 : b = false → Q) : if b then P else Q := by cases b with
  | true => exact h1 rfl
  | false => exact h2 rfl
theorem r_ift {b : Bool} {P Q : Prop} (h : b = true) (hp : P) : if b = true then P else Q := by rw [if_pos h]; exact hp
theorem r_iff {b : Bool} {P Q : Prop} (h : b = false) (hp : Q) : if b = true then P else Q := by rw [if_neg (by rw [h]; decide)]; exact hp
theorem r_ist {b : Bool} {P Q : Prop} (h : b = true) (hp : P) : (b = true → P) ∧ (b = false → Q) := ⟨fun _ => hp, fun q => by rw [h] at q; cases q⟩
theorem r_isf {b : Bool} {P Q : Prop} (h : b = false) (hp : Q) : (b = true → P) ∧ (b = false → Q) := ⟨fun q => (by rw [h] at q; cases q), fun _ => hp⟩
theorem r_is {b : Bool} {P Q : Prop} (h1 : b = true → P) (h2 : b = false → Q) : (b = true → P) ∧ (b = false → Q) := ⟨h1, h2⟩
theorem r_if_true {P Q : Prop} (h : P) : if true = true then P else Q := h
theorem r_if_false {P Q : Prop} (h : Q) : if false = true then P else Q := h
end
end Mine

set_option Elab.async false
set_option autoImplicit false
set_option linter.unusedVariables false
namespace Mine
open PySem PySem.Spec PySem.Calls PyProof.Rows

section
variable {Γ : Sig} {n : Nat} {sc : Kinds} {m : Loc} {σ : Store} {p q : Pos} {src : V}

theorem src_ref {l : Nat} {xs : List V} (h : itemsAt σ l = some xs) (k : Nat) : srcNext σ (.ref l) k = some xs[k]? := by
  unfold srcNext; dsimp only; rw [h]; rfl
theorem src_tup {xs : List PyData} (k : Nat) : srcNext σ (.d (.tuple xs)) k = some (xs.map V.d)[k]? := by
  unfold srcNext; dsimp only; rw [List.getElem?_map]
theorem src_rng {n : Nat} (k : Nat) : srcNext σ (.rng 0 n) k = some ((List.range n).map fun (i : Nat) => vInt i)[k]? := by
  unfold srcNext; dsimp only
  rw [List.getElem?_map]
  by_cases h : k < n
  · rw [if_pos (by omega), List.getElem?_range h]; simp [vInt]
  · rw [if_neg (by omega), List.getElem?_eq_none (by simp; omega)]; rfl

theorem comp_src {α : Type} {K : OutE → Prop} {names : List (Str × NameKind)} {ifs : List Expr} {elt : Expr} {x : Str} (xs : List α) (enc : α → V) (g : α → Option V) (hs : ∀ k, srcNext σ src k = some (xs.map enc)[k]?) (hlen : xs.length ≤ 1000000)
    (hb : ∀ v ∈ xs, ∀ (Y : V → Store → Prop) (N : Store → Prop), (∀ w, g v = some w → Y w σ) → (g v = none → N σ) →
      wpIfs (wpT Γ n (kindsOf names)) ifs (upd (compLoc names m) x (enc v)) σ (fun _ => False) fun b σ => if b then wpE Γ n (kindsOf names) elt (upd (compLoc names m) x (enc v)) σ (noExn fun w σ => Y w σ) else N σ)
    (hK : K (.val (.ref σ.length) (σ ++ [.lst (xs.filterMap g)]))) :
    ∃ (N : Nat) (I : Nat → List V → Store → Prop), N ≤ 1000000 ∧ I 0 [] σ ∧
          (∀ k acc σ, k < N → I k acc σ → ∃ v, srcNext σ src k = some (some v) ∧ acc.length ≤ k ∧
            wpIfs (wpT Γ n (kindsOf names)) ifs (upd (compLoc names m) x v) σ (fun _ => False) fun b σ => if b then wpE Γ n (kindsOf names) elt (upd (compLoc names m) x v) σ (noExn fun w σ => I (k + 1) (acc ++ [w]) σ) else I (k + 1) acc σ) ∧
          (∀ acc σ, I N acc σ → srcNext σ src N = some none ∧ K (.val (.ref σ.length) (σ ++ [.lst acc]))) := by
  refine ⟨xs.length, fun k acc σ' => σ' = σ ∧ acc = (xs.take k).filterMap g, hlen, ⟨rfl, rfl⟩, ?_, ?_⟩
  · rintro k acc _ hk ⟨rfl, rfl⟩
    refine ⟨enc xs[k], by rw [hs, List.getElem?_map, List.getElem?_eq_getElem hk]; rfl, ?_, ?_⟩
    · refine Nat.le_trans (List.length_filterMap_le ..) ?_
      rw [List.length_take]; exact Nat.min_le_left ..
    · have e : (xs.take (k + 1)).filterMap g = (xs.take k).filterMap g ++ (g xs[k]).toList := by
        rw [List.take_succ_eq_append_getElem hk, List.filterMap_append]
        cases h : g xs[k] <;> simp [List.filterMap_cons, h]
      refine hb _ (List.getElem_mem hk) (fun w σ'' => σ'' = _ ∧ _ = _) (fun σ'' => σ'' = _ ∧ _ = _) ?_ ?_
      · intro w h; refine ⟨rfl, ?_⟩; rw [e, h]; rfl
      · intro h; refine ⟨rfl, ?_⟩; rw [e, h]; simp
  · rintro acc _ ⟨rfl, rfl⟩
    rw [hs, List.getElem?_eq_none (by simp), List.take_length]
    exact ⟨rfl, hK⟩

theorem for_src {α : Type} {K : OutS → Prop} {body : List Stmt} {x : Str} (xs : List α) (enc : α → V) (I : Nat → Loc → Store → Prop) (h0 : I 0 m σ)
    (hs : ∀ k m σ', I k m σ' → srcNext σ' src k = some (xs.map enc)[k]?)
    (hb : ∀ k (h : k < xs.length) m σ, I k m σ → wpSs (wpS Γ n sc) body (upd m x (enc xs[k])) σ (loopN K (I (k + 1))))
    (hK : ∀ m σ, I xs.length m σ → K (.next m σ)) :
    ∃ (N : Nat) (I : Nat → Loc → Store → Prop), I 0 m σ ∧
          (∀ k m σ, k < N → I k m σ → ∃ v, srcNext σ src k = some (some v) ∧ wpSs (wpS Γ n sc) body (upd m x v) σ (loopN K (I (k + 1)))) ∧
          (∀ m σ, I N m σ → srcNext σ src N = some none ∧ K (.next m σ)) := by
  refine ⟨xs.length, I, h0, ?_, ?_⟩
  · intro k m σ hk hI
    exact ⟨enc xs[k], by rw [hs k m σ hI, List.getElem?_map, List.getElem?_eq_getElem hk]; rfl, hb k hk m σ hI⟩
  · intro m σ hI
    exact ⟨by rw [hs _ m σ hI, List.getElem?_eq_none (by simp)], hK m σ hI⟩
end

theorem filterMap_if {α β : Type} (P : α → Bool) (f : α → β) : ∀ l : List α, l.filterMap (fun a => if P a then some (f a) else none) = (l.filter P).map f
  | [] => rfl
  | a :: r => by
    rw [List.filterMap_cons, List.filter_cons]
    cases h : P a
    · simp only [Bool.false_eq_true, if_false]; exact filterMap_if P f r
    · simp only [if_true, List.map_cons]; rw [filterMap_if P f r]
theorem filterMap_some {α β : Type} (f : α → β) (l : List α) : l.filterMap (fun a => some (f a)) = l.map f := by
  induction l with
  | nil => rfl
  | cons a r ih => rw [List.filterMap_cons]; simp only; rw [ih]; rfl

section
variable {σ : Store}
theorem itemsAt_append {i : Nat} {xs : List V} {c : Cell} (h : itemsAt σ i = some xs) : itemsAt (σ ++ [c]) i = some xs := by
  unfold itemsAt at h ⊢
  cases e : σ[i]? with
  | none => rw [e] at h; cases h
  | some a =>
    have := (List.getElem?_eq_some_iff.mp e).1
    rw [List.getElem?_append_left this, e]; rw [e] at h; exact h
theorem itemsAt_new {xs : List V} : itemsAt (σ ++ [.lst xs]) σ.length = some xs := by
  unfold itemsAt; simp [Cell.items]

theorem set_new {c d : Cell} : (σ ++ [c]).set σ.length d = σ ++ [d] := by simp
theorem get_new {c : Cell} : (σ ++ [c])[σ.length]? = some c := by simp

noncomputable def Grown (σ τ : Store) : Prop := ∃ r, τ = σ ++ r
theorem Grown.refl : Grown σ σ := ⟨[], by simp⟩
theorem Grown.snoc {τ : Store} {c : Cell} (h : Grown σ τ) : Grown σ (τ ++ [c]) := by
  obtain ⟨r, rfl⟩ := h
  exact ⟨r ++ [c], by simp⟩

/-- a value that is data comes back, and what was made on the way is left -/
theorem ret_data {K : OutE → Prop} {d : PyData} {τ : Store} (g : Grown σ τ) (h : K (.val (.d d) σ)) : retK σ K (.ret (.d d) τ) := by
  obtain ⟨r, rfl⟩ := g
  exact ⟨_, _, _, .pure, h⟩
theorem ret_none {K : OutE → Prop} {τ : Store} {m : Loc} (g : Grown σ τ) (h : K (.val (.d .none) σ)) : retK σ K (.next m τ) := by
  obtain ⟨r, rfl⟩ := g
  exact ⟨_, _, _, .pure, h⟩
/-- a new list of data comes back alone -/
theorem ret_list {K : OutE → Prop} {xs : List V} {τ : Store} {j : Nat} (g : Grown σ τ) (hj : σ.length ≤ j) (hx : τ[j]? = some (.lst xs)) (hf : ∀ v ∈ xs, ∃ x, v = .d x) (h : K (.val (.ref σ.length) (σ ++ [.lst xs]))) : retK σ K (.ret (.ref j) τ) := by
  obtain ⟨r, rfl⟩ := g
  obtain ⟨i, rfl⟩ := Nat.exists_eq_add_of_le hj
  rw [List.getElem?_append_right (by omega), Nat.add_sub_cancel_left] at hx
  exact ⟨_, _, _, .newList hx hf, h⟩

theorem Grown.trans {τ υ : Store} (h : Grown σ τ) (g : Grown τ υ) : Grown σ υ := by
  obtain ⟨r, rfl⟩ := h
  obtain ⟨t, rfl⟩ := g
  exact ⟨r ++ t, by simp⟩
theorem Grown.len {τ : Store} (h : Grown σ τ) : σ.length ≤ τ.length := by
  obtain ⟨r, rfl⟩ := h
  simp
theorem Grown.items {τ : Store} {i : Nat} {xs : List V} (h : Grown σ τ) (e : itemsAt σ i = some xs) : itemsAt τ i = some xs := by
  obtain ⟨r, rfl⟩ := h
  unfold itemsAt at e ⊢
  cases q : σ[i]? with
  | none => rw [q] at e; cases e
  | some a =>
    rw [List.getElem?_append_left (List.getElem?_eq_some_iff.mp q).1, q]; rw [q] at e; exact e

theorem upd_self {m : Loc} {x : Str} {v : V} (h : m x = some v) : upd m x v = m := by
  funext y
  unfold upd
  split
  · rename_i e; rw [e, h]
  · rfl

section
variable {sv : Sv} {b : List Stmt} {m : Loc} {K : OutS → Prop} {R : Loc → Store → Prop}
/-- both ways of a test meet again: one name holds a whole number -/
theorem if_joinI {c : Bool} (x : Str) {a v₁ : Int} (hm : m x = some (.d (.int a))) (h1 : c = true → ∀ R : Loc → Store → Prop, R (upd m x (.d (.int v₁))) σ → wpSs sv b m σ (loopS K R)) (hR : R (upd m x (.d (.int (if c then v₁ else a)))) σ) :
    (c = true → wpSs sv b m σ (loopS K R)) ∧ (c = false → wpSs sv [] m σ (loopS K R)) := by
  cases c with
  | true => exact ⟨fun h => h1 h R hR, fun h => by cases h⟩
  | false =>
    refine ⟨fun h => (by cases h), fun _ => ?_⟩
    show R m σ
    rw [if_neg (by decide), upd_self hm] at hR
    exact hR
theorem if_joinS {c : Bool} (x : Str) {a v₁ : Str} (hm : m x = some (.d (.str a))) (h1 : c = true → ∀ R : Loc → Store → Prop, R (upd m x (.d (.str v₁))) σ → wpSs sv b m σ (loopS K R)) (hR : R (upd m x (.d (.str (if c then v₁ else a)))) σ) :
    (c = true → wpSs sv b m σ (loopS K R)) ∧ (c = false → wpSs sv [] m σ (loopS K R)) := by
  cases c with
  | true => exact ⟨fun h => h1 h R hR, fun h => by cases h⟩
  | false =>
    refine ⟨fun h => (by cases h), fun _ => ?_⟩
    show R m σ
    rw [if_neg (by decide), upd_self hm] at hR
    exact hR
/-- the same, where a way may leave new cells -/
theorem if_joinG {c : Bool} (x : Str) {a v₁ : Int} (hm : m x = some (.d (.int a))) (h1 : c = true → ∀ R : Loc → Store → Prop, (∀ τ, Grown σ τ → R (upd m x (.d (.int v₁))) τ) → wpSs sv b m σ (loopS K R)) (hR : ∀ τ, Grown σ τ → R (upd m x (.d (.int (if c then v₁ else a)))) τ) :
    (c = true → wpSs sv b m σ (loopS K R)) ∧ (c = false → wpSs sv [] m σ (loopS K R)) := by
  cases c with
  | true => exact ⟨fun h => h1 h R hR, fun h => by cases h⟩
  | false =>
    refine ⟨fun h => (by cases h), fun _ => ?_⟩
    show R m σ
    have := hR σ .refl
    rw [if_neg (by decide), upd_self hm] at this
    exact this
end

theorem slice_nat {α : Type} (xs : List α) (a b : Nat) : sliceV xs (some (a : Int)) (some ((a + b : Nat) : Int)) = (xs.drop a).take b := by
  have ha : clipAt xs.length (a : Int) = min a xs.length := by unfold clipAt; omega
  have hb : clipAt xs.length ((a + b : Nat) : Int) = min (a + b) xs.length := by unfold clipAt; omega
  unfold sliceV
  simp only [Option.elim_some, ha, hb]
  by_cases h : a ≤ xs.length
  · rw [Nat.min_eq_left h]
    by_cases h2 : a + b ≤ xs.length
    · rw [Nat.min_eq_left h2, Nat.add_sub_cancel_left]
    · rw [Nat.min_eq_right (by omega), List.take_of_length_le (by simp), List.take_of_length_le (by simp; omega)]
  · rw [List.drop_of_length_le (i := min a xs.length) (by omega), List.drop_of_length_le (by omega)]
    simp

theorem dataOf_data {i n : Nat} {ds : List PyData} (h : itemsAt σ i = some (ds.map V.d)) : dataOf σ (n + 1) (.ref i) = some (.list ds) := by
  unfold dataOf
  rw [h]
  show ((ds.map V.d).mapM (dataOf σ n)).map _ = _
  have : (ds.map V.d).mapM (dataOf σ n) = some ds := by
    clear h
    induction ds with
    | nil => rfl
    | cons d r ih =>
      rw [List.map_cons, List.mapM_cons, ih]
      unfold dataOf
      rfl
  rw [this]; rfl
end
end Mine

set_option Elab.async false
set_option autoImplicit false
set_option linter.unusedVariables false
namespace Mine
open PySem PySem.Spec PySem.Calls PyProof.Rows PySem.W

/-- the contract that a law owes: over a list of whole numbers it says True -/
noncomputable def goalT : Contract := fun vs σ K => ∃ (i : Nat) (ns : List Int), vs = [.ref i] ∧ itemsAt σ i = some (ns.map vInt) ∧ ns.length ≤ 63 ∧ K (.val (.d (.bool true)) σ)

theorem has_of_well {X : Cx} {P : Params} {n : Nat} {ρ : Nat → Addr} {h : Heap} : ∀ {ns : List Int} {vs : List Value}, WellAll P h vs (ns.map WData.int) → HasAll X n ρ h (ns.map vInt) vs
  | [], _, w => by cases w; exact .nil
  | i :: r, _, w => by
    cases w with
    | cons h1 h2 =>
      cases h1
      exact .cons (.ofInt ..) (has_of_well h2)

theorem ofPys_ints : ∀ ns : List Int, ofPys (ns.map PyData.int) = ns.map WData.int
  | [] => by simp [ofPys]
  | i :: r => by simp [ofPys, ofPy, ofPys_ints r]

theorem law_end {X : Cx} {k : Nat} {fa l : Addr} {ns : List Int} {s : Shared} {P : Params} {Q E : Value → Shared → Prop} (hv : ValidF X k ("law" : Str) goalT) (hk : k < 400) (hmg : X.mg ("law" : Str) = some (.ref fa)) (hB : X.B = s.heap)
    (hw : Well P s.heap (.ref l) (ofPy (.list (ns.map PyData.int)))) (hn : ¬ ((63 : Nat) : Int) < (ns.length : Int)) (hQ : ∀ h' tk, (∀ b o, s.heap.get? b = some o → h'.get? b = some o) → Q (.bool true) { s with heap := h', toks := tk }) :
    wpAny (model X.prog X.w) callerA (call (.ref fa) [.ref l]) Q E s := by
  obtain ⟨f, h1, _, h3⟩ := hv
  have hf : f = .ref fa := by
    unfold Cx.val at h1
    rw [hmg] at h1
    exact (Option.some.inj h1).symm
  subst hf
  have hw' : Well P s.heap (.ref l) (.list (ns.map WData.int)) := by
    have e : ofPy (.list (ns.map PyData.int)) = .list (ns.map WData.int) := by simp only [ofPy, ofPys_ints]
    rw [← e]; exact hw
  cases hw' with
  | @list _ vs _ ho hall =>
    have hH : HasAll X 1 (fun _ => l) s.heap (ns.map vInt) vs := has_of_well hall
    refine h3 [.ref 0] [.rol (ns.map vInt)] (fun r => ∃ σ', r = .val (.d (.bool true)) σ') ⟨0, ns, rfl, rfl, by omega, _, rfl⟩ callerA s (fun _ => l) [.ref l] Q E ?_ ?_ ?_ ?_ ?_
    · exact ⟨rfl, by show 301 + k < 1000; omega, by show 4 + 20 * k + 200 < 9900; omega, [], rfl, fun e he => by cases he⟩
    · refine ⟨fun b o e => by rw [← hB]; exact e, fun i c hc => ?_, fun i c hc ho' => ?_, fun i j hi hj _ => ?_⟩
      · cases i with
        | zero => cases hc; exact ⟨vs, ⟨_, ho⟩, hH⟩
        | succ i => simp at hc
      · cases i with
        | zero => cases hc; cases ho'
        | succ i => simp at hc
      · simp at hi hj; omega
    · exact .cons (.ref (by simp)) .nil
    · rintro v σ' ρ' a h' tk ⟨τ, e⟩ R g hv
      cases e
      have : a = .bool true := by cases hv.d_inv; rfl
      subst this
      exact hQ h' tk fun b o e => R.base b o (by rw [hB]; exact e)
    · rintro c σ' ρ' e h' tk ⟨τ, q⟩
      cases q
end Mine

set_option Elab.async false
set_option autoImplicit false
set_option linter.unusedVariables false
namespace Mine
open PySem PySem.Spec PySem.Calls PyProof.Rows
local macro_rules | `(tactic| walk_at "mine_look") => `(tactic| (first | exact Mine.upd_eq | exact Mine.look_eq | assumption | refine Mine.upd_ne (by decide +kernel) ?_ | refine Mine.look_ne (by decide +kernel) ?_ | refine Mine.comp_free (by decide +kernel) ?_))
local macro_rules | `(tactic| walk_at "mine_fn") => `(tactic| (first | assumption | (simp only [Mine.Sig.add, Mine.baseSig, Mine.emptySig, Mine.ofString_inj, String.reduceEq, reduceIte, List.lookup_cons, List.lookup_nil, Mine.ofString_beq, String.reduceBEq]; done) | (simp only [Mine.Sig.add, Mine.baseSig, Mine.emptySig, Mine.ofString_inj, String.reduceEq, reduceIte, List.lookup_cons, List.lookup_nil, Mine.ofString_beq, String.reduceBEq]; rfl)))
local macro_rules | `(tactic| walk_at "mine_step") => `(tactic| (first
    | (with_reducible (first | refine Mine.r_thenE ?_ | refine Mine.r_noExn ?_ | refine Mine.r_next ?_ | refine Mine.r_ret ?_ | refine Mine.r_nextN ?_ | refine Mine.r_retN ?_ | refine Mine.r_nil ?_ | refine Mine.r_cons ?_ | refine Mine.r_Return ?_ | refine Mine.r_If ?_ | refine Mine.r_int ?_ | refine Mine.r_str ?_ | refine Mine.r_bool ?_ | refine Mine.r_none ?_ | refine Mine.r_BinOp ?_ | refine Mine.r_UnaryOp ?_ | refine Mine.r_BoolOp ?_ | refine Mine.r_Compare ?_ | refine Mine.r_Slice ?_ | refine Mine.r_tup1 ?_ | refine Mine.r_tup2 ?_ | refine Mine.r_tup3 ?_ | refine Mine.r_tup4 ?_ | refine Mine.r_es_nil ?_ | refine Mine.r_es_cons ?_ | refine Mine.r_o_none ?_ | refine Mine.r_o_some ?_ | refine Mine.r_o_int ?_ | refine Mine.r_cmp2 ?_ | refine Mine.r_lt ?_ | refine Mine.r_le ?_ | refine Mine.r_gt ?_ | refine Mine.r_ge ?_ | refine Mine.r_eqI ?_ | refine Mine.r_neI ?_ | refine Mine.r_eqB ?_ | refine Mine.r_neB ?_ | refine Mine.r_add ?_ | refine Mine.r_sub ?_ | refine Mine.r_usub ?_ | refine Mine.r_not ?_ | refine Mine.r_truth ?_ | refine Mine.t_and_nil ?_ | refine Mine.t_or_nil ?_ | refine Mine.t_and_cons ?_ | refine Mine.t_or_cons ?_ | refine Mine.t_if_nil ?_ | refine Mine.t_if_one ?_ | refine Mine.b_one ?_ | refine Mine.b_and ?_ | refine Mine.b_or ?_ | refine Mine.t_Compare ?_ | refine Mine.t_BoolOp ?_ | refine Mine.t_Not ?_ | refine Mine.t_Call ?_ | refine Mine.t_Name ?_))
    | ((with_reducible apply Mine.r_Assign); (focus (decide +kernel)))
    | ((with_reducible apply Mine.r_For); (focus (decide +kernel)); (focus (exact rfl)))
    | ((with_reducible apply Mine.r_name); (focus (decide +kernel)); (focus ((repeat (walk_at "mine_look")); done)))
    | ((with_reducible apply Mine.r_List); (focus (exact rfl)))
    | ((with_reducible apply Mine.r_Tuple); (focus (exact rfl)))
    | ((with_reducible apply Mine.r_Item); (focus (exact rfl)))
    | ((with_reducible apply Mine.r_Call); (focus (decide +kernel)); (focus assumption); (focus assumption); (focus (exact rfl)))
    | ((with_reducible apply Mine.r_Expr); (focus (exact rfl)))
    | ((with_reducible apply Mine.r_SetItem); (focus (exact rfl)); (focus (exact rfl)))
    | ((with_reducible apply Mine.r_Meth); (focus (exact rfl)); (focus (exact rfl)); (focus (exact rfl)); (focus decide))
    | ((with_reducible apply Mine.r_Comp); (focus (exact rfl)); (focus (decide +kernel)))
    | ((with_reducible apply Mine.r_const); (focus (decide +kernel)); (focus assumption))
    | ((with_reducible apply Mine.r_glob); (focus (decide +kernel)); (focus assumption); (focus assumption))
    | ((with_reducible apply Mine.r_cmp1); (focus (exact rfl)))
    | ((with_reducible apply Mine.r_eqS); (focus (first | assumption | decide +kernel)); (focus (first | assumption | decide +kernel)))
    | ((with_reducible apply Mine.r_neS); (focus (first | assumption | decide +kernel)); (focus (first | assumption | decide +kernel)))
    | ((with_reducible apply Mine.r_div); (focus decide))
    | ((with_reducible apply Mine.r_mod); (focus decide))
    | ((with_reducible apply Mine.r_mul); (focus (first | exact .of_right (by decide) | exact .of_left (by decide))))
    | ((with_reducible apply Mine.r_len); (focus (exact rfl)))
    | ((with_reducible apply Mine.r_ift); (focus (first | exact rfl | assumption | decide +kernel)))
    | ((with_reducible apply Mine.r_iff); (focus (first | exact rfl | assumption | decide +kernel)))
    | ((with_reducible apply Mine.r_ist); (focus (first | exact rfl | assumption | decide +kernel)))
    | ((with_reducible apply Mine.r_isf); (focus (first | exact rfl | assumption | decide +kernel)))
    | ((with_reducible apply Mine.r_itemT); (focus decide); (focus (exact rfl)))))
local macro_rules | `(tactic| walk_at "mine_steps") => `(tactic| (repeat (walk_at "mine_step")))
local macro_rules | `(tactic| walk_at "mine_paths") => `(tactic| (repeat' (first | walk_at "mine_step" | (with_reducible apply Mine.r_if) | (with_reducible apply Mine.r_is) | intro _)))
structure Wish where
  buy : Bool
  lim : Int
  amt : Int
noncomputable def Wish.side (w : Wish) : Str := if w.buy then ("buy" : Str) else ("sell" : Str)
noncomputable def Wish.v (w : Wish) : V := .d (.tuple [.str w.side, .int w.lim, .int w.amt])
theorem side_ok (w : Wish) : PyData.strOk w.side = true := by
  unfold Wish.side
  split <;> decide +kernel
theorem buy_beq (w : Wish) : (w.side == ("buy" : Str)) = w.buy := by
  obtain ⟨b, l, a⟩ := w
  cases b
  · exact (by decide +kernel : (("sell" : Str) == ("buy" : Str)) = false)
  · exact (by decide +kernel : (("buy" : Str) == ("buy" : Str)) = true)
theorem sell_beq (w : Wish) : (w.side == ("sell" : Str)) = !w.buy := by
  obtain ⟨b, l, a⟩ := w
  cases b
  · exact (by decide +kernel : (("sell" : Str) == ("sell" : Str)) = true)
  · exact (by decide +kernel : (("buy" : Str) == ("sell" : Str)) = false)

noncomputable def wantedF (ws : List Wish) (price : Int) : Int := ((ws.filter fun w => w.buy && decide (price ≤ w.lim)).map Wish.amt).sum
noncomputable def wantedT : Contract := fun vs σ K => ∃ i ws price, vs = [.ref i, .d (.int price)] ∧ itemsAt σ i = some (ws.map Wish.v) ∧ ws.length ≤ 1000000 ∧ K (.val (.d (.int (wantedF ws price))) σ)
noncomputable def offeredF (ws : List Wish) (price : Int) : Int := ((ws.filter fun w => !w.buy && decide (w.lim ≤ price)).map Wish.amt).sum
noncomputable def offeredT : Contract := fun vs σ K => ∃ i ws price, vs = [.ref i, .d (.int price)] ∧ itemsAt σ i = some (ws.map Wish.v) ∧ ws.length ≤ 1000000 ∧ K (.val (.d (.int (offeredF ws price))) σ)
theorem map_amt (ws : List Wish) : ws.map (fun w => vInt w.amt) = (ws.map Wish.amt).map vInt := by simp


noncomputable def cellAt (ns : List Int) (k : Nat) : Int := ns.getD k 0
noncomputable def cell_atT : Contract := fun vs σ K => ∃ i ns, ∃ k : Nat, vs = [.ref i, .d (.int (k : Int))] ∧ itemsAt σ i = some (ns.map vInt) ∧ ns.length ≤ 1000000 ∧ K (.val (.d (.int (cellAt ns k))) σ)
theorem getD_vInt {ns : List Int} {k : Nat} (h : k < ns.length) : (ns.map vInt)[((k : Int)).toNat]? = some (.d (.int (ns.getD k 0))) := by
  rw [Int.toNat_natCast, List.getElem?_map, List.getElem?_eq_getElem h, List.getD_eq_getElem?_getD, List.getElem?_eq_getElem h]; rfl

theorem isi_int {σ : Store} {i : Int} {t : Str} {b : Bool} (h : isiName "int" t = some b) : isiW σ (.d (.int i)) t = some b := h
noncomputable def wholeT : Contract := fun vs σ K => ∃ i, vs = [.d (.int i)] ∧ K (.val (.d (.bool true)) σ)

noncomputable def farF (c : Int) : Int := c * 48271 % 2147483647
noncomputable def limF (c : Int) : Int := if decide (farF c % 7 = 2) then [0, 1, 999999999, 1000000000].getD (farF c / 7 % 4).toNat 0 else if decide (farF c % 7 = 1) then c * 69621 % 2147483629 % 1000000001 else 20 + farF c / 7 % 9
noncomputable def amtF (c : Int) : Int := if decide (farF c / 63 % 10 = 2) then 1000000 else if decide (farF c / 63 % 5 = 1) then 1 + c * 40692 % 2147483399 % 1000000 else 1 + farF c / 63 % 6
noncomputable def wishF (c : Int) : Wish := ⟨!decide (c % 2 = 1), limF c, amtF c⟩
theorem wishF_v (c : Int) : .d (.tuple [.str (if decide (c % 2 = 1) then ("sell" : Str) else ("buy" : Str)), .int (limF c), .int (amtF c)]) = (wishF c).v := by
  unfold Wish.v wishF Wish.side
  dsimp only
  cases decide (c % 2 = 1) <;> rfl
noncomputable def wish_byT : Contract := fun vs σ K => ∃ c, vs = [.d (.int c)] ∧ K (.val (wishF c).v σ)
theorem pick_int (L : List Int) {k : Int} (h : 0 ≤ k ∧ k < L.length) : (L.map vInt)[k.toNat]? = some (.d (.int (L.getD k.toNat 0))) := by
  obtain ⟨n, rfl⟩ := Int.eq_ofNat_of_zero_le h.1
  exact getD_vInt (by omega)

noncomputable def extraF (ns : List Int) : List Wish := if cellAt ns 0 % 8 = 5 then (List.range (20 + cellAt ns 1 % 30).toNat).map fun k => wishF (cellAt ns 1 + 8191 * (k : Nat)) else []
noncomputable def manyF (ns : List Int) (few : Nat) : Nat := if 63 < ns.length then 150 else few
noncomputable def wishesF (ns : List Int) (first few : Nat) : List Wish := ((ns.drop first).take (manyF ns few)).map wishF ++ extraF ns
noncomputable def wishes_byT : Contract := fun vs σ K => ∃ i ns, ∃ first few : Nat, vs = [.ref i, .d (.int (first : Int)), .d (.int (few : Int))] ∧ itemsAt σ i = some (ns.map vInt) ∧ ns.length ≤ 900000 ∧ K (.val (.ref σ.length) (σ ++ [.lst ((wishesF ns first few).map Wish.v)]))
theorem v_data {ws : List Wish} : ∀ v ∈ ws.map Wish.v, ∃ x, v = .d x := by
  intro v hv
  obtain ⟨w, _, rfl⟩ := List.mem_map.mp hv
  exact ⟨_, rfl⟩


theorem wantedF_snoc (l : List Wish) (w : Wish) (p : Int) : wantedF (l ++ [w]) p = wantedF l p + (if w.buy && decide (p ≤ w.lim) then w.amt else 0) := by
  unfold wantedF
  rw [List.filter_append, List.map_append, List.sum_append]
  congr 1
  rw [List.filter_cons]
  split <;> simp
theorem offeredF_snoc (l : List Wish) (w : Wish) (p : Int) : offeredF (l ++ [w]) p = offeredF l p + (if !w.buy && decide (w.lim ≤ p) then w.amt else 0) := by
  unfold offeredF
  rw [List.filter_append, List.map_append, List.sum_append]
  congr 1
  rw [List.filter_cons]
  split <;> simp
noncomputable def lsumF (b : Bool) (ws : List Wish) (p : Int) : Int := if b then wantedF ws p else offeredF ws p
noncomputable def lsumT : Contract := fun vs σ K => ∃ i ws b price, vs = [.ref i, .d (.str (if b then ("buy" : Str) else ("sell" : Str))), .d (.int price)] ∧ itemsAt σ i = some (ws.map Wish.v) ∧ ws.length ≤ 1000000 ∧ K (.val (.d (.int (lsumF b ws price))) σ)
theorem buy_buy : (("buy" : Str) == ("buy" : Str)) = true := by decide +kernel
theorem sell_sell : (("sell" : Str) == ("sell" : Str)) = true := by decide +kernel
theorem sell_buy : (("sell" : Str) == ("buy" : Str)) = false := by decide +kernel
theorem buy_sell : (("buy" : Str) == ("sell" : Str)) = false := by decide +kernel

noncomputable def any_priceT : Contract := fun vs σ K => ∃ (i : Nat) (ws : List Wish) (cell other : Int), vs = [.ref i, .d (.int cell), .d (.int other)] ∧ itemsAt σ i = some (ws.map Wish.v) ∧ ws.length ≤ 1000000 ∧ ∀ p : Int, K (.val (.d (.int p)) σ)

theorem eqv_ints : ∀ a b : List Int, PyData.eqvAll (a.map .int) (b.map .int) = decide (a = b)
  | [], [] => by simp [PyData.eqvAll]
  | [], _ :: _ => by simp [PyData.eqvAll]
  | _ :: _, [] => by simp [PyData.eqvAll]
  | x :: a, y :: b => by
    simp only [List.map_cons, PyData.eqvAll, eqv_ints a b, PyData.eqv, List.cons.injEq, Bool.decide_and]
    rfl
noncomputable def Wish.d (w : Wish) : PyData := .tuple [.str w.side, .int w.lim, .int w.amt]
theorem Wish.eqv_refl (w : Wish) : PyData.eqv w.d w.d = true := by simp [Wish.d, PyData.eqv, PyData.eqvAll]
theorem eqv_wishes : ∀ ws : List Wish, PyData.eqvAll (ws.map Wish.d) (ws.map Wish.d) = true
  | [] => by simp [PyData.eqvAll]
  | w :: r => by simp only [List.map_cons, PyData.eqvAll, Wish.eqv_refl, eqv_wishes r, Bool.and_self]
theorem map_v (ws : List Wish) : ws.map Wish.v = (ws.map Wish.d).map V.d := by rw [List.map_map]; rfl
theorem canLay_all (l : List PyData) (h : ∀ d ∈ l, PyData.canLay0 d = true) : PyData.canLayAll0 l = true := by
  induction l with
  | nil => simp [PyData.canLayAll0]
  | cons d r ih => simp only [PyData.canLayAll0, h d List.mem_cons_self, ih fun x hx => h x (List.mem_cons_of_mem _ hx), Bool.and_self]
theorem depth_all (n : Nat) (l : List PyData) (h : ∀ d ∈ l, d.depth ≤ n) : PyData.depthAll l ≤ n := by
  induction l with
  | nil => simp [PyData.depthAll]
  | cons d r ih => 
    simp only [PyData.depthAll]
    exact Nat.max_le.mpr ⟨h d List.mem_cons_self, ih fun x hx => h x (List.mem_cons_of_mem _ hx)⟩
theorem shaped_list (l : List PyData) (h1 : ∀ d ∈ l, PyData.canLay0 d = true) (h2 : ∀ d ∈ l, d.depth ≤ 40) : SeqAt.shaped (.list l) = true := by
  unfold SeqAt.shaped
  rw [Bool.and_eq_true, decide_eq_true_eq]
  refine ⟨by simpa [PyData.canLay0] using canLay_all l h1, ?_⟩
  have := depth_all 40 l h2
  simp only [PyData.depth]
  omega
theorem shaped_ints (a : List Int) : SeqAt.shaped (.list (a.map .int)) = true := by
  refine shaped_list _ (fun d hd => ?_) (fun d hd => ?_)
  all_goals (obtain ⟨i, _, rfl⟩ := List.mem_map.mp hd)
  · rfl
  · simp [PyData.depth]
theorem shaped_wishes (ws : List Wish) : SeqAt.shaped (.list (ws.map Wish.d)) = true := by
  refine shaped_list _ (fun d hd => ?_) (fun d hd => ?_)
  all_goals (obtain ⟨w, _, rfl⟩ := List.mem_map.mp hd)
  · simp [Wish.d, PyData.canLay0, PyData.canLayAll0, side_ok]
  · simp [Wish.d, PyData.depth, PyData.depthAll]

theorem wishesF_len (ns : List Int) (first few : Nat) (h : ns.length ≤ 900000) : (wishesF ns first few).length ≤ 1000000 := by
  have : (extraF ns).length ≤ 50 := by
    unfold extraF
    split
    · simp; omega
    · simp
  unfold wishesF
  simp only [List.length_append, List.length_map, List.length_take, List.length_drop]
  omega


noncomputable def enoughF (ws : List Wish) (p : Int) : Bool := decide (wantedF ws (p + 1) ≤ offeredF ws p)
noncomputable def soldF (ws : List Wish) (p : Int) : Bool := decide (offeredF ws (p - 1) ≤ wantedF ws p)
noncomputable def clearsF (ws : List Wish) (p : Int) : Bool := enoughF ws p && soldF ws p
/-- a function of a list of wishes and a price, with a truth as its end -/
noncomputable def onPrice (F : List Wish → Int → Bool) : Contract := fun vs σ K => ∃ i ws price, vs = [.ref i, .d (.int price)] ∧ itemsAt σ i = some (ws.map Wish.v) ∧ ws.length ≤ 1000000 ∧ K (.val (.d (.bool (F ws price))) σ)
noncomputable def is_enoughT : Contract := onPrice enoughF
noncomputable def is_soldT : Contract := onPrice soldF
noncomputable def clearsT : Contract := onPrice clearsF
noncomputable def lclearsT : Contract := onPrice clearsF
noncomputable def price_byT : Contract := fun vs σ K => ∃ (i : Nat) (ws : List Wish) (cell other : Int), vs = [.ref i, .d (.int cell), .d (.int other)] ∧ itemsAt σ i = some (ws.map Wish.v) ∧ ws.length ≤ 1000000 ∧ ∀ p : Int, 0 ≤ p ∧ p ≤ 1000000000 → K (.val (.d (.int p)) σ)
theorem isi_bool {σ : Store} {i : Bool} {t : Str} {b : Bool} (h : isiName "bool" t = some b) : isiW σ (.d (.bool i)) t = some b := h
/-- two lists of the same wishes are told alike -/
theorem eq_wishes {σ : Store} {i j : Nat} {ws : List Wish} {g : Bool → Prop} (h1 : itemsAt σ i = some (ws.map Wish.v)) (h2 : itemsAt σ j = some (ws.map Wish.v)) (h : g true) : cmpW .Eq (.ref i) (.ref j) σ g := by
  refine ⟨.list (ws.map Wish.d), .list (ws.map Wish.d), dataOf_data (by rw [← map_v]; exact h1), dataOf_data (by rw [← map_v]; exact h2), shaped_wishes _, shaped_wishes _, ?_⟩
  rw [show PyData.eqv (.list (ws.map Wish.d)) (.list (ws.map Wish.d)) = true by rw [PyData.eqv, eqv_wishes]]
  exact h
theorem ne_wishes {σ : Store} {i j : Nat} {ws : List Wish} {g : Bool → Prop} (h1 : itemsAt σ i = some (ws.map Wish.v)) (h2 : itemsAt σ j = some (ws.map Wish.v)) (h : g false) : cmpW .NotEq (.ref i) (.ref j) σ g := by
  refine ⟨.list (ws.map Wish.d), .list (ws.map Wish.d), dataOf_data (by rw [← map_v]; exact h1), dataOf_data (by rw [← map_v]; exact h2), shaped_wishes _, shaped_wishes _, ?_⟩
  rw [show PyData.eqv (.list (ws.map Wish.d)) (.list (ws.map Wish.d)) = true by rw [PyData.eqv, eqv_wishes]]
  exact h
end Mine

set_option Elab.async false
set_option autoImplicit false
set_option linter.unusedVariables false
set_option linter.unusedSimpArgs false
set_option maxRecDepth 100000
namespace Mine
open PySem PySem.Spec PySem.Calls PyProof.Rows
local macro_rules | `(tactic| walk_at "mine_look") => `(tactic| (first | exact Mine.upd_eq | exact Mine.look_eq | assumption | refine Mine.upd_ne (by decide +kernel) ?_ | refine Mine.look_ne (by decide +kernel) ?_ | refine Mine.comp_free (by decide +kernel) ?_))
local macro_rules | `(tactic| walk_at "mine_fn") => `(tactic| (first | assumption | (simp only [Mine.Sig.add, Mine.baseSig, Mine.emptySig, Mine.ofString_inj, String.reduceEq, reduceIte, List.lookup_cons, List.lookup_nil, Mine.ofString_beq, String.reduceBEq]; done) | (simp only [Mine.Sig.add, Mine.baseSig, Mine.emptySig, Mine.ofString_inj, String.reduceEq, reduceIte, List.lookup_cons, List.lookup_nil, Mine.ofString_beq, String.reduceBEq]; rfl)))
local macro_rules | `(tactic| walk_at "mine_step") => `(tactic| (first
    | (with_reducible (first | refine Mine.r_thenE ?_ | refine Mine.r_noExn ?_ | refine Mine.r_next ?_ | refine Mine.r_ret ?_ | refine Mine.r_nextN ?_ | refine Mine.r_retN ?_ | refine Mine.r_nil ?_ | refine Mine.r_cons ?_ | refine Mine.r_Return ?_ | refine Mine.r_If ?_ | refine Mine.r_int ?_ | refine Mine.r_str ?_ | refine Mine.r_bool ?_ | refine Mine.r_none ?_ | refine Mine.r_BinOp ?_ | refine Mine.r_UnaryOp ?_ | refine Mine.r_BoolOp ?_ | refine Mine.r_Compare ?_ | refine Mine.r_Slice ?_ | refine Mine.r_tup1 ?_ | refine Mine.r_tup2 ?_ | refine Mine.r_tup3 ?_ | refine Mine.r_tup4 ?_ | refine Mine.r_es_nil ?_ | refine Mine.r_es_cons ?_ | refine Mine.r_o_none ?_ | refine Mine.r_o_some ?_ | refine Mine.r_o_int ?_ | refine Mine.r_cmp2 ?_ | refine Mine.r_lt ?_ | refine Mine.r_le ?_ | refine Mine.r_gt ?_ | refine Mine.r_ge ?_ | refine Mine.r_eqI ?_ | refine Mine.r_neI ?_ | refine Mine.r_eqB ?_ | refine Mine.r_neB ?_ | refine Mine.r_add ?_ | refine Mine.r_sub ?_ | refine Mine.r_usub ?_ | refine Mine.r_not ?_ | refine Mine.r_truth ?_ | refine Mine.t_and_nil ?_ | refine Mine.t_or_nil ?_ | refine Mine.t_and_cons ?_ | refine Mine.t_or_cons ?_ | refine Mine.t_if_nil ?_ | refine Mine.t_if_one ?_ | refine Mine.b_one ?_ | refine Mine.b_and ?_ | refine Mine.b_or ?_ | refine Mine.t_Compare ?_ | refine Mine.t_BoolOp ?_ | refine Mine.t_Not ?_ | refine Mine.t_Call ?_ | refine Mine.t_Name ?_))
    | ((with_reducible apply Mine.r_Assign); (focus (decide +kernel)))
    | ((with_reducible apply Mine.r_For); (focus (decide +kernel)); (focus (exact rfl)))
    | ((with_reducible apply Mine.r_name); (focus (decide +kernel)); (focus ((repeat (walk_at "mine_look")); done)))
    | ((with_reducible apply Mine.r_List); (focus (exact rfl)))
    | ((with_reducible apply Mine.r_Tuple); (focus (exact rfl)))
    | ((with_reducible apply Mine.r_Item); (focus (exact rfl)))
    | ((with_reducible apply Mine.r_Call); (focus (decide +kernel)); (focus assumption); (focus assumption); (focus (exact rfl)))
    | ((with_reducible apply Mine.r_Expr); (focus (exact rfl)))
    | ((with_reducible apply Mine.r_SetItem); (focus (exact rfl)); (focus (exact rfl)))
    | ((with_reducible apply Mine.r_Meth); (focus (exact rfl)); (focus (exact rfl)); (focus (exact rfl)); (focus decide))
    | ((with_reducible apply Mine.r_Comp); (focus (exact rfl)); (focus (decide +kernel)))
    | ((with_reducible apply Mine.r_const); (focus (decide +kernel)); (focus assumption))
    | ((with_reducible apply Mine.r_glob); (focus (decide +kernel)); (focus assumption); (focus assumption))
    | ((with_reducible apply Mine.r_cmp1); (focus (exact rfl)))
    | ((with_reducible apply Mine.r_eqS); (focus (first | assumption | decide +kernel)); (focus (first | assumption | decide +kernel)))
    | ((with_reducible apply Mine.r_neS); (focus (first | assumption | decide +kernel)); (focus (first | assumption | decide +kernel)))
    | ((with_reducible apply Mine.r_div); (focus decide))
    | ((with_reducible apply Mine.r_mod); (focus decide))
    | ((with_reducible apply Mine.r_mul); (focus (first | exact .of_right (by decide) | exact .of_left (by decide))))
    | ((with_reducible apply Mine.r_len); (focus (exact rfl)))
    | ((with_reducible apply Mine.r_ift); (focus (first | exact rfl | assumption | decide +kernel)))
    | ((with_reducible apply Mine.r_iff); (focus (first | exact rfl | assumption | decide +kernel)))
    | ((with_reducible apply Mine.r_ist); (focus (first | exact rfl | assumption | decide +kernel)))
    | ((with_reducible apply Mine.r_isf); (focus (first | exact rfl | assumption | decide +kernel)))
    | ((with_reducible apply Mine.r_itemT); (focus decide); (focus (exact rfl)))))
local macro_rules | `(tactic| walk_at "mine_steps") => `(tactic| (repeat (walk_at "mine_step")))
local macro_rules | `(tactic| walk_at "mine_paths") => `(tactic| (repeat' (first | walk_at "mine_step" | (with_reducible apply Mine.r_if) | (with_reducible apply Mine.r_is) | intro _)))
def prg : Program := PySem.Challenge.rw_uf040040_04.row.toRowW.1
theorem v_wanted {X : Cx} {k : Nat} {Γ : Sig} (cx : CxOk X) (ok : SigOk X k Γ) (h_sum : Γ.fn ("sum" : Str) = some sumT) (c_sum : Γ.const ("sum" : Str) = none) {nm : Str} {ps : Arguments} {body : List Stmt} {dl : List Expr} {re : Option Expr} {tp} {sc : Scope} {tc} {q : Str} {pos : Pos}
    (hs : prg.main.body[1]? = some (.FunctionDef nm ps body dl re tp sc tc q pos)) (hf : IsFn X ("wanted" : Str) (ps.args.map (·.arg)) body sc) : ValidF X (k + 1) ("wanted" : Str) wantedT := by
  cases hs
  have hf : IsFn X ("wanted" : Str) ["wishes", "price"] _ _ := hf
  refine valid_fn (n := 60) cx ok hf (by decide +kernel) ?_
  rintro _ σ K ⟨i, ws, price, rfl, h1, h2, hK⟩
  refine ⟨rfl, ?_⟩
  dsimp only
  walk_at "mine_steps"
  refine comp_src ws Wish.v (fun w => if w.buy && decide (price ≤ w.lim) then some (vInt w.amt) else none) (src_ref h1) (by simpa using h2) ?_ ?_
  · intro w _ Y N hY hN
    have := side_ok w
    unfold Wish.v
    dsimp only
    walk_at "mine_steps"
    rw [buy_beq]
    refine r_if (fun hb => ?_) (fun hb => ?_)
    · walk_at "mine_steps"
      refine r_if (fun hp => ?_) (fun hp => ?_)
      · walk_at "mine_steps"
        exact hY _ (by rw [hb, hp]; rfl)
      · walk_at "mine_steps"
        exact hN (by rw [hb, hp]; rfl)
    · walk_at "mine_steps"
      exact hN (by rw [hb]; rfl)
  · walk_at "mine_steps"
    refine ⟨_, itemsAt_new.trans (congrArg some ((filterMap_if ..).trans (map_amt _))), ?_⟩
    walk_at "mine_steps"
    exact ret_data Grown.refl.snoc hK

theorem v_offered {X : Cx} {k : Nat} {Γ : Sig} (cx : CxOk X) (ok : SigOk X k Γ) (h_sum : Γ.fn ("sum" : Str) = some sumT) (c_sum : Γ.const ("sum" : Str) = none) {nm : Str} {ps : Arguments} {body : List Stmt} {dl : List Expr} {re : Option Expr} {tp} {sc : Scope} {tc} {q : Str} {pos : Pos}
    (hs : prg.main.body[2]? = some (.FunctionDef nm ps body dl re tp sc tc q pos)) (hf : IsFn X ("offered" : Str) (ps.args.map (·.arg)) body sc) : ValidF X (k + 1) ("offered" : Str) offeredT := by
  cases hs
  have hf : IsFn X ("offered" : Str) ["wishes", "price"] _ _ := hf
  refine valid_fn (n := 60) cx ok hf (by decide +kernel) ?_
  rintro _ σ K ⟨i, ws, price, rfl, h1, h2, hK⟩
  refine ⟨rfl, ?_⟩
  dsimp only
  walk_at "mine_steps"
  refine comp_src ws Wish.v (fun w => if !w.buy && decide (w.lim ≤ price) then some (vInt w.amt) else none) (src_ref h1) (by simpa using h2) ?_ ?_
  · intro w _ Y N hY hN
    have := side_ok w
    unfold Wish.v
    dsimp only
    walk_at "mine_steps"
    rw [sell_beq]
    refine r_if (fun hb => ?_) (fun hb => ?_)
    · walk_at "mine_steps"
      refine r_if (fun hp => ?_) (fun hp => ?_)
      · walk_at "mine_steps"
        exact hY _ (by rw [hb, hp]; rfl)
      · walk_at "mine_steps"
        exact hN (by rw [hb, hp]; rfl)
    · walk_at "mine_steps"
      exact hN (by rw [hb]; rfl)
  · walk_at "mine_steps"
    refine ⟨_, itemsAt_new.trans (congrArg some ((filterMap_if ..).trans (map_amt _))), ?_⟩
    walk_at "mine_steps"
    exact ret_data Grown.refl.snoc hK

theorem v_is_enough {X : Cx} {k : Nat} {Γ : Sig} (cx : CxOk X) (ok : SigOk X k Γ) (h_wanted : Γ.fn ("wanted" : Str) = some wantedT) (c_wanted : Γ.const ("wanted" : Str) = none) (h_offered : Γ.fn ("offered" : Str) = some offeredT) (c_offered : Γ.const ("offered" : Str) = none) {nm : Str} {ps : Arguments} {body : List Stmt} {dl : List Expr} {re : Option Expr} {tp} {sc : Scope} {tc} {q : Str} {pos : Pos}
    (hs : prg.main.body[4]? = some (.FunctionDef nm ps body dl re tp sc tc q pos)) (hf : IsFn X ("is_enough" : Str) (ps.args.map (·.arg)) body sc) : ValidF X (k + 1) ("is_enough" : Str) is_enoughT := by
  cases hs
  have hf : IsFn X ("is_enough" : Str) ["wishes", "price"] _ _ := hf
  refine valid_fn (n := 60) cx ok hf (by decide +kernel) ?_
  rintro _ σ K ⟨i, ws, p, rfl, h1, h2, hK⟩
  refine ⟨rfl, ?_⟩
  dsimp only
  walk_at "mine_steps"
  refine ⟨i, ws, _, rfl, h1, h2, ?_⟩
  walk_at "mine_steps"
  refine ⟨i, ws, _, rfl, h1, h2, ?_⟩
  walk_at "mine_steps"
  exact ret_data .refl hK

theorem v_is_sold {X : Cx} {k : Nat} {Γ : Sig} (cx : CxOk X) (ok : SigOk X k Γ) (h_offered : Γ.fn ("offered" : Str) = some offeredT) (c_offered : Γ.const ("offered" : Str) = none) (h_wanted : Γ.fn ("wanted" : Str) = some wantedT) (c_wanted : Γ.const ("wanted" : Str) = none) {nm : Str} {ps : Arguments} {body : List Stmt} {dl : List Expr} {re : Option Expr} {tp} {sc : Scope} {tc} {q : Str} {pos : Pos}
    (hs : prg.main.body[5]? = some (.FunctionDef nm ps body dl re tp sc tc q pos)) (hf : IsFn X ("is_sold" : Str) (ps.args.map (·.arg)) body sc) : ValidF X (k + 1) ("is_sold" : Str) is_soldT := by
  cases hs
  have hf : IsFn X ("is_sold" : Str) ["wishes", "price"] _ _ := hf
  refine valid_fn (n := 60) cx ok hf (by decide +kernel) ?_
  rintro _ σ K ⟨i, ws, p, rfl, h1, h2, hK⟩
  refine ⟨rfl, ?_⟩
  dsimp only
  walk_at "mine_steps"
  refine ⟨i, ws, _, rfl, h1, h2, ?_⟩
  walk_at "mine_steps"
  refine ⟨i, ws, _, rfl, h1, h2, ?_⟩
  walk_at "mine_steps"
  exact ret_data .refl hK

theorem v_clears {X : Cx} {k : Nat} {Γ : Sig} (cx : CxOk X) (ok : SigOk X k Γ) (h_is_enough : Γ.fn ("is_enough" : Str) = some is_enoughT) (c_is_enough : Γ.const ("is_enough" : Str) = none) (h_is_sold : Γ.fn ("is_sold" : Str) = some is_soldT) (c_is_sold : Γ.const ("is_sold" : Str) = none) {nm : Str} {ps : Arguments} {body : List Stmt} {dl : List Expr} {re : Option Expr} {tp} {sc : Scope} {tc} {q : Str} {pos : Pos}
    (hs : prg.main.body[6]? = some (.FunctionDef nm ps body dl re tp sc tc q pos)) (hf : IsFn X ("clears" : Str) (ps.args.map (·.arg)) body sc) : ValidF X (k + 1) ("clears" : Str) clearsT := by
  cases hs
  have hf : IsFn X ("clears" : Str) ["wishes", "price"] _ _ := hf
  refine valid_fn (n := 60) cx ok hf (by decide +kernel) ?_
  rintro _ σ K ⟨i, ws, p, rfl, h1, h2, hK⟩
  refine ⟨rfl, ?_⟩
  dsimp only
  walk_at "mine_steps"
  refine ⟨i, ws, _, rfl, h1, h2, ?_⟩
  walk_at "mine_steps"
  refine r_if (fun he => ?_) (fun he => ?_)
  · walk_at "mine_steps"
    refine ⟨i, ws, _, rfl, h1, h2, ?_⟩
    walk_at "mine_steps"
    refine ret_data .refl ?_
    rw [clearsF, he, Bool.true_and] at hK
    exact hK
  · walk_at "mine_steps"
    refine ret_data .refl ?_
    rw [clearsF, he, Bool.false_and] at hK
    rw [he]; exact hK

theorem v_cell_at {X : Cx} {k : Nat} {Γ : Sig} (cx : CxOk X) (ok : SigOk X k Γ) (h_len : Γ.fn ("len" : Str) = some lenT) (c_len : Γ.const ("len" : Str) = none) {nm : Str} {ps : Arguments} {body : List Stmt} {dl : List Expr} {re : Option Expr} {tp} {sc : Scope} {tc} {q : Str} {pos : Pos}
    (hs : prg.main.body[8]? = some (.FunctionDef nm ps body dl re tp sc tc q pos)) (hf : IsFn X ("_law_cell_at" : Str) (ps.args.map (·.arg)) body sc) : ValidF X (k + 1) ("_law_cell_at" : Str) cell_atT := by
  cases hs
  have hf : IsFn X ("_law_cell_at" : Str) ["_law_script", "_law_k"] _ _ := hf
  refine valid_fn (n := 60) cx ok hf (by decide +kernel) ?_
  rintro _ σ K ⟨i, ns, j, rfl, h1, h2, hK⟩
  refine ⟨rfl, ?_⟩
  dsimp only
  walk_at "mine_steps"
  refine ⟨_, h1, by simpa using h2, ?_⟩
  walk_at "mine_steps"
  refine ⟨fun hc => ?_, fun hc => ?_⟩
  · walk_at "mine_steps"
    have hc := of_decide_eq_true hc
    rw [List.length_map] at hc
    refine r_itemL h1 (by omega) (getD_vInt (by omega)) ?_
    walk_at "mine_steps"
    exact ret_data .refl hK
  · walk_at "mine_steps"
    have hc := of_decide_eq_false hc
    rw [List.length_map] at hc
    have : cellAt ns j = 0 := by unfold cellAt; rw [List.getD_eq_getElem?_getD, List.getElem?_eq_none (by omega)]; rfl
    rw [this] at hK
    exact ret_data .refl hK

theorem v_wish_by {X : Cx} {k : Nat} {Γ : Sig} (cx : CxOk X) (ok : SigOk X k Γ)  {nm : Str} {ps : Arguments} {body : List Stmt} {dl : List Expr} {re : Option Expr} {tp} {sc : Scope} {tc} {q : Str} {pos : Pos}
    (hs : prg.main.body[9]? = some (.FunctionDef nm ps body dl re tp sc tc q pos)) (hf : IsFn X ("_law_wish_by" : Str) (ps.args.map (·.arg)) body sc) : ValidF X (k + 1) ("_law_wish_by" : Str) wish_byT := by
  cases hs
  have hf : IsFn X ("_law_wish_by" : Str) ["_law_cell"] _ _ := hf
  refine valid_fn (n := 60) cx ok hf (by decide +kernel) ?_
  rintro _ σ K ⟨c, rfl, hK⟩
  refine ⟨rfl, ?_⟩
  dsimp only
  walk_at "mine_steps"
  apply if_joinS ("_law_side" : Str)
  focus (((repeat (walk_at "mine_look")); done))
  focus
    intro hc R hr
    walk_at "mine_steps"
    exact hr
  walk_at "mine_steps"
  apply if_joinI ("_law_limit" : Str)
  focus (((repeat (walk_at "mine_look")); done))
  focus
    intro hc R hr
    walk_at "mine_steps"
    exact hr
  walk_at "mine_steps"
  apply if_joinG ("_law_limit" : Str)
  focus (((repeat (walk_at "mine_look")); done))
  · intro hc R hr
    walk_at "mine_steps"
    refine r_itemL itemsAt_new (by omega) (pick_int [0, 1, 999999999, 1000000000] (by simp; omega)) ?_
    walk_at "mine_steps"
    exact hr _ Grown.refl.snoc
  intro τ hg
  walk_at "mine_steps"
  apply if_joinI ("_law_amount" : Str)
  focus (((repeat (walk_at "mine_look")); done))
  focus
    intro hc R hr
    walk_at "mine_steps"
    exact hr
  walk_at "mine_steps"
  apply if_joinI ("_law_amount" : Str)
  focus (((repeat (walk_at "mine_look")); done))
  focus
    intro hc R hr
    walk_at "mine_steps"
    exact hr
  walk_at "mine_steps"
  refine ret_data hg ?_
  exact (wishF_v c) ▸ hK

theorem v_wishes_by {X : Cx} {k : Nat} {Γ : Sig} (cx : CxOk X) (ok : SigOk X k Γ) (h_len : Γ.fn ("len" : Str) = some lenT) (c_len : Γ.const ("len" : Str) = none) (h_wish_by : Γ.fn ("_law_wish_by" : Str) = some wish_byT) (c_wish_by : Γ.const ("_law_wish_by" : Str) = none) (h_cell_at : Γ.fn ("_law_cell_at" : Str) = some cell_atT) (c_cell_at : Γ.const ("_law_cell_at" : Str) = none) (h_range : Γ.fn ("range" : Str) = some rangeT) (c_range : Γ.const ("range" : Str) = none) (m_append : Γ.meth "list" ("append" : Str) = some appendT) {nm : Str} {ps : Arguments} {body : List Stmt} {dl : List Expr} {re : Option Expr} {tp} {sc : Scope} {tc} {q : Str} {pos : Pos}
    (hs : prg.main.body[10]? = some (.FunctionDef nm ps body dl re tp sc tc q pos)) (hf : IsFn X ("_law_wishes_by" : Str) (ps.args.map (·.arg)) body sc) : ValidF X (k + 1) ("_law_wishes_by" : Str) wishes_byT := by
  cases hs
  have hf : IsFn X ("_law_wishes_by" : Str) ["_law_script", "_law_first", "_law_few"] _ _ := hf
  refine valid_fn (n := 60) cx ok hf (by decide +kernel) ?_
  rintro _ σ K ⟨i, ns, first, few, rfl, h1, h2', hK⟩
  have h2 : ns.length ≤ 1000000 := by omega
  refine ⟨rfl, ?_⟩
  dsimp only
  walk_at "mine_steps"
  refine ⟨_, h1, by simpa using h2, ?_⟩
  walk_at "mine_steps"
  apply if_joinI ("_law_many" : Str)
  focus (((repeat (walk_at "mine_look")); done))
  focus
    intro hc R hr
    walk_at "mine_steps"
    exact hr
  have em : (if decide ((63 : Int) < ((ns.map vInt).length : Nat)) = true then (150 : Int) else (few : Int)) = ((manyF ns few : Nat) : Int) := by
    rw [List.length_map]; unfold manyF
    by_cases h : 63 < ns.length
    · rw [if_pos h, if_pos (by simpa using (by omega : (63 : Int) < ns.length))]; rfl
    · rw [if_neg h, if_neg (by simpa using (by omega : (ns.length : Int) ≤ 63))]
  rw [em]
  walk_at "mine_steps"
  refine ⟨_, h1, by simpa using h2, ?_⟩
  rw [show (first : Int) + (manyF ns few : Nat) = ((first + manyF ns few : Nat) : Int) by omega, slice_nat]
  walk_at "mine_steps"
  refine comp_src ((ns.drop first).take (manyF ns few)) vInt (fun c => some (wishF c).v) (src_ref (by rw [itemsAt_new, List.map_take, List.map_drop])) (by simp; omega) ?_ ?_
  · intro c _ Y N hY hN
    dsimp only [vInt]
    walk_at "mine_steps"
    refine ⟨c, rfl, ?_⟩
    exact hY _ rfl
  rw [filterMap_some]
  walk_at "mine_steps"
  refine ⟨i, ns, 0, rfl, (Grown.refl.snoc.snoc).items h1, h2, ?_⟩
  walk_at "mine_steps"
  generalize hsl : ((ns.map vInt).drop first).take (manyF ns few) = sl
  generalize hws : ((ns.drop first).take (manyF ns few)).map wishF = ws
  have hws' : ((ns.drop first).take (manyF ns few)).map (fun c => (wishF c).v) = ws.map Wish.v := by rw [← hws, List.map_map]; rfl
  rw [hws']
  have fin : ∀ es, extraF ns = es → retK σ K (.ret (.ref (σ ++ [Cell.lst sl]).length) (σ ++ [Cell.lst sl] ++ [Cell.lst (ws.map Wish.v ++ es.map Wish.v)])) := by
    intro es he
    refine ret_list Grown.refl.snoc.snoc (by simp) get_new (by rw [← List.map_append]; exact v_data) ?_
    rw [← List.map_append, ← he, ← hws]
    exact hK
  refine ⟨fun hc => ?_, fun hc => ?_⟩
  · walk_at "mine_steps"
    refine ⟨i, ns, 1, rfl, (Grown.refl.snoc.snoc).items h1, h2, ?_⟩
    walk_at "mine_steps"
    refine ⟨by omega, ?_⟩
    have hn : (20 + cellAt ns 1 % 30 : Int) = ((20 + cellAt ns 1 % 30).toNat : Nat) := by omega
    rw [hn]
    generalize hn' : (20 + cellAt ns 1 % 30).toNat = n at *
    have hn50 : n ≤ 50 := by omega
    walk_at "mine_steps"
    refine for_src (List.range n) (fun k => vInt k) (fun k m σ' => σ' = σ ++ [Cell.lst sl] ++ [Cell.lst (ws.map Wish.v ++ ((List.range k).map fun j => wishF (cellAt ns 1 + 8191 * (j : Nat))).map Wish.v)] ∧ m ("_law_script" : Str) = some (.ref i) ∧ m ("_law_wishes" : Str) = some (.ref (σ ++ [Cell.lst sl]).length))
      ⟨by simp, by ((repeat (walk_at "mine_look")); done), by ((repeat (walk_at "mine_look")); done)⟩ (fun k m σ' _ => src_rng k) ?_ ?_
    · rintro k hk m _ ⟨rfl, hm1, hm2⟩
      dsimp only [vInt]
      walk_at "mine_steps"
      refine r_onList itemsAt_new m_append ?_
      walk_at "mine_steps"
      refine ⟨i, ns, 1, rfl, (Grown.refl.snoc.snoc).items h1, h2, ?_⟩
      walk_at "mine_steps"
      refine ⟨_, rfl, ?_⟩
      walk_at "mine_steps"
      rw [List.length_range] at hk
      refine ⟨_, get_new, ?_, ?_⟩
      · have : ws.length ≤ ns.length := by rw [← hws]; simp; omega
        simp; omega
      rw [set_new, List.getElem_range]
      walk_at "mine_steps"
      refine ⟨?_, by ((repeat (walk_at "mine_look")); done), by ((repeat (walk_at "mine_look")); done)⟩
      rw [List.range_succ, List.map_append, List.map_append, ← List.append_assoc]
      rfl
    · rintro m _ ⟨rfl, hm1, hm2⟩
      walk_at "mine_steps"
      rw [List.length_range]
      exact fin _ (by unfold extraF; rw [if_pos (of_decide_eq_true hc), ← hn'])
  · walk_at "mine_steps"
    have := fin [] (by unfold extraF; rw [if_neg (of_decide_eq_false hc)])
    simpa using this

theorem v_lsum {X : Cx} {k : Nat} {Γ : Sig} (cx : CxOk X) (ok : SigOk X k Γ)  {nm : Str} {ps : Arguments} {body : List Stmt} {dl : List Expr} {re : Option Expr} {tp} {sc : Scope} {tc} {q : Str} {pos : Pos}
    (hs : prg.main.body[11]? = some (.FunctionDef nm ps body dl re tp sc tc q pos)) (hf : IsFn X ("_law_sum" : Str) (ps.args.map (·.arg)) body sc) : ValidF X (k + 1) ("_law_sum" : Str) lsumT := by
  cases hs
  have hf : IsFn X ("_law_sum" : Str) ["_law_wishes", "_law_side", "_law_price"] _ _ := hf
  refine valid_fn (n := 60) cx ok hf (by decide +kernel) ?_
  rintro _ σ K ⟨i, ws, b, price, rfl, h1, h2, hK⟩
  refine ⟨rfl, ?_⟩
  dsimp only
  walk_at "mine_steps"
  refine for_src ws Wish.v (fun k m σ' => σ' = σ ∧ m ("_law_wishes" : Str) = some (.ref i) ∧ m ("_law_side" : Str) = some (.d (.str (if b then ("buy" : Str) else ("sell" : Str)))) ∧ m ("_law_price" : Str) = some (.d (.int price)) ∧ m ("_law_total" : Str) = some (.d (.int (lsumF b (ws.take k) price))))
    ⟨rfl, by ((repeat (walk_at "mine_look")); done), by ((repeat (walk_at "mine_look")); done), by ((repeat (walk_at "mine_look")); done), ?_⟩ (fun k m σ' h => src_ref (by rw [h.1, h1]) k) ?_ ?_
  · cases b <;> exact upd_eq
  · rintro k hk m _ ⟨rfl, hm1, hm2, hm3, hm4⟩
    have hsn : ws.take (k + 1) = ws.take k ++ [ws[k]] := List.take_succ_eq_append_getElem hk
    rw [hsn]
    generalize ws[k] = w at *
    have := side_ok w
    unfold Wish.v
    have e1 := buy_beq w
    have e2 := sell_beq w
    cases b
    · simp only [Bool.false_eq_true, if_false] at hm2 ⊢
      have key := offeredF_snoc (ws.take k) w price
      walk_at "mine_paths"
      all_goals refine ⟨rfl, by ((repeat (walk_at "mine_look")); done), by ((repeat (walk_at "mine_look")); done), by ((repeat (walk_at "mine_look")); done), ?_⟩
      all_goals first
        | refine upd_eq.trans ?_
        | (refine upd_ne (by decide +kernel) ?_; rw [hm4])
      all_goals simp_all [lsumF]
    · simp only [if_true] at hm2 ⊢
      have key := wantedF_snoc (ws.take k) w price
      walk_at "mine_paths"
      all_goals refine ⟨rfl, by ((repeat (walk_at "mine_look")); done), by ((repeat (walk_at "mine_look")); done), by ((repeat (walk_at "mine_look")); done), ?_⟩
      all_goals first
        | refine upd_eq.trans ?_
        | (refine upd_ne (by decide +kernel) ?_; rw [hm4])
      all_goals simp_all [lsumF]
  · rintro m _ ⟨rfl, hm1, hm2, hm3, hm4⟩
    rw [List.take_length] at hm4
    walk_at "mine_steps"
    exact ret_data .refl hK

theorem v_price_by {X : Cx} {k : Nat} {Γ : Sig} (cx : CxOk X) (ok : SigOk X k Γ) (h_len : Γ.fn ("len" : Str) = some lenT) (c_len : Γ.const ("len" : Str) = none) (h_max : Γ.fn ("max" : Str) = some maxT) (c_max : Γ.const ("max" : Str) = none) (h_min : Γ.fn ("min" : Str) = some minT) (c_min : Γ.const ("min" : Str) = none) {nm : Str} {ps : Arguments} {body : List Stmt} {dl : List Expr} {re : Option Expr} {tp} {sc : Scope} {tc} {q : Str} {pos : Pos}
    (hs : prg.main.body[12]? = some (.FunctionDef nm ps body dl re tp sc tc q pos)) (hf : IsFn X ("_law_price_by" : Str) (ps.args.map (·.arg)) body sc) : ValidF X (k + 1) ("_law_price_by" : Str) price_byT := by
  cases hs
  have hf : IsFn X ("_law_price_by" : Str) ["_law_wishes", "_law_cell", "_law_other"] _ _ := hf
  refine valid_fn (n := 60) cx ok hf (by decide +kernel) ?_
  rintro _ σ K ⟨i, ws, cell, other, rfl, h1, h2, hK⟩
  have hK' : ∀ p : Int, K (.val (.d (.int (if 0 < (if p < 1000000000 then p else 1000000000) then (if p < 1000000000 then p else 1000000000) else 0))) σ) := fun p => hK _ (by split <;> split <;> omega)
  refine ⟨rfl, ?_⟩
  dsimp only
  walk_at "mine_steps"
  apply if_joinI ("_law_price" : Str)
  focus (((repeat (walk_at "mine_look")); done))
  focus
    intro hc R hr
    walk_at "mine_steps"
    exact hr
  walk_at "mine_steps"
  apply if_joinG ("_law_price" : Str)
  focus (((repeat (walk_at "mine_look")); done))
  · intro hc R hr
    walk_at "mine_steps"
    refine r_itemL itemsAt_new (by omega) (pick_int [0, 1, 999999999, 1000000000] (by simp; omega)) ?_
    walk_at "mine_steps"
    exact hr _ Grown.refl.snoc
  intro τ hg
  generalize (if decide (cell % 5 = 2) = true then _ else _ : Int) = pr
  walk_at "mine_steps"
  refine r_if (fun h4 => ?_) (fun h4 => ?_)
  · walk_at "mine_steps"
    refine ⟨_, hg.items h1, by simpa using h2, ?_⟩
    walk_at "mine_steps"
    refine r_if (fun h5 => ?_) (fun h5 => ?_)
    · walk_at "mine_steps"
      refine ⟨_, hg.items h1, by simpa using h2, ?_⟩
      walk_at "mine_steps"
      have h5 := of_decide_eq_true h5
      rw [List.length_map] at h5 ⊢
      refine r_mod (by omega) ?_
      walk_at "mine_steps"
      have hb : (other % (ws.length : Int)).toNat < ws.length := by
        have := Int.emod_lt_of_pos other h5
        have := Int.emod_nonneg other (by omega : (ws.length : Int) ≠ 0)
        omega
      refine r_itemL (hg.items h1) ⟨Int.emod_nonneg _ (by omega), ?_⟩ (v := (ws[(other % (ws.length : Int)).toNat]).v) (by rw [List.getElem?_map, List.getElem?_eq_getElem hb]; rfl) ?_
      · have := Int.emod_lt_of_pos other h5
        omega
      unfold Wish.v
      walk_at "mine_steps"
      dsimp only [minT, vInt]
      walk_at "mine_steps"
      dsimp only [maxT, vInt]
      walk_at "mine_steps"
      exact ret_data hg (hK' _)
    · walk_at "mine_steps"
      dsimp only [minT, vInt]
      walk_at "mine_steps"
      dsimp only [maxT, vInt]
      walk_at "mine_steps"
      exact ret_data hg (hK' _)
  · walk_at "mine_steps"
    dsimp only [minT, vInt]
    walk_at "mine_steps"
    dsimp only [maxT, vInt]
    walk_at "mine_steps"
    exact ret_data hg (hK' _)

theorem v_lclears {X : Cx} {k : Nat} {Γ : Sig} (cx : CxOk X) (ok : SigOk X k Γ) (h_lsum : Γ.fn ("_law_sum" : Str) = some lsumT) (c_lsum : Γ.const ("_law_sum" : Str) = none) {nm : Str} {ps : Arguments} {body : List Stmt} {dl : List Expr} {re : Option Expr} {tp} {sc : Scope} {tc} {q : Str} {pos : Pos}
    (hs : prg.main.body[13]? = some (.FunctionDef nm ps body dl re tp sc tc q pos)) (hf : IsFn X ("_law_clears" : Str) (ps.args.map (·.arg)) body sc) : ValidF X (k + 1) ("_law_clears" : Str) lclearsT := by
  cases hs
  have hf : IsFn X ("_law_clears" : Str) ["_law_wishes", "_law_price"] _ _ := hf
  refine valid_fn (n := 60) cx ok hf (by decide +kernel) ?_
  rintro _ σ K ⟨i, ws, p, rfl, h1, h2, hK⟩
  refine ⟨rfl, ?_⟩
  dsimp only
  walk_at "mine_steps"
  refine ⟨i, ws, true, _, rfl, h1, h2, ?_⟩
  walk_at "mine_steps"
  refine ⟨i, ws, false, _, rfl, h1, h2, ?_⟩
  walk_at "mine_steps"
  refine ⟨fun hc => ?_, fun hc => ?_⟩
  · walk_at "mine_steps"
    refine ret_data .refl ?_
    have : clearsF ws p = false := by
      have := of_decide_eq_true hc
      simp only [lsumF, if_true, Bool.false_eq_true, if_false] at this
      rw [clearsF, enoughF, decide_eq_false (by omega), Bool.false_and]
    rw [this] at hK; exact hK
  · walk_at "mine_steps"
    refine ⟨i, ws, false, _, rfl, h1, h2, ?_⟩
    walk_at "mine_steps"
    refine ⟨i, ws, true, _, rfl, h1, h2, ?_⟩
    walk_at "mine_steps"
    refine ret_data .refl ?_
    have : clearsF ws p = soldF ws p := by
      have := of_decide_eq_false hc
      simp only [lsumF, if_true, Bool.false_eq_true, if_false] at this
      rw [clearsF, enoughF, decide_eq_true (by omega), Bool.true_and]
    rw [this] at hK; exact hK

theorem v_goal {X : Cx} {k : Nat} {Γ : Sig} (cx : CxOk X) (ok : SigOk X k Γ) (h_wishes_by : Γ.fn ("_law_wishes_by" : Str) = some wishes_byT) (c_wishes_by : Γ.const ("_law_wishes_by" : Str) = none) (h_price_by : Γ.fn ("_law_price_by" : Str) = some price_byT) (c_price_by : Γ.const ("_law_price_by" : Str) = none) (h_cell_at : Γ.fn ("_law_cell_at" : Str) = some cell_atT) (c_cell_at : Γ.const ("_law_cell_at" : Str) = none) (h_list : Γ.fn ("list" : Str) = some listT) (c_list : Γ.const ("list" : Str) = none) (h_clears : Γ.fn ("clears" : Str) = some clearsT) (c_clears : Γ.const ("clears" : Str) = none) (h_isi : Γ.fn ("isinstance" : Str) = some isiT) (c_isi : Γ.const ("isinstance" : Str) = none) (h_lclears : Γ.fn ("_law_clears" : Str) = some lclearsT) (c_lclears : Γ.const ("_law_clears" : Str) = none) (k_bool : Γ.knows ("bool" : Str) = true) (c_bool : Γ.const ("bool" : Str) = none) {nm : Str} {ps : Arguments} {body : List Stmt} {dl : List Expr} {re : Option Expr} {tp} {sc : Scope} {tc} {q : Str} {pos : Pos}
    (hs : prg.main.body[14]? = some (.FunctionDef nm ps body dl re tp sc tc q pos)) (hf : IsFn X ("law" : Str) (ps.args.map (·.arg)) body sc) : ValidF X (k + 1) ("law" : Str) goalT := by
  cases hs
  have hf : IsFn X ("law" : Str) ["_law_script"] _ _ := hf
  refine valid_fn (n := 60) cx ok hf (by decide +kernel) ?_
  rintro _ σ K ⟨i, ns, rfl, h1, h63, hK⟩
  have h2 : ns.length ≤ 900000 := by omega
  refine ⟨rfl, ?_⟩
  dsimp only
  walk_at "mine_steps"
  refine ⟨i, ns, 4, 24, rfl, h1, h2, ?_⟩
  have hl : (wishesF ns 4 24).length ≤ 1000000 := wishesF_len ns 4 24 h2
  generalize wishesF ns 4 24 = ws at *
  walk_at "mine_steps"
  refine ⟨i, ns, 2, rfl, Grown.refl.snoc.items h1, by omega, ?_⟩
  walk_at "mine_steps"
  refine ⟨i, ns, 3, rfl, Grown.refl.snoc.items h1, by omega, ?_⟩
  walk_at "mine_steps"
  refine ⟨_, ws, _, _, rfl, itemsAt_new, hl, fun p hp => ?_⟩
  walk_at "mine_steps"
  refine ⟨_, itemsAt_new, by simpa using hl, ?_⟩
  walk_at "mine_steps"
  refine ⟨_, ws, p, rfl, itemsAt_new, hl, ?_⟩
  walk_at "mine_steps"
  refine ⟨true, isi_bool (by decide +kernel), ?_⟩
  walk_at "mine_steps"
  refine ⟨_, ws, p, rfl, Grown.refl.snoc.items itemsAt_new, hl, ?_⟩
  walk_at "mine_steps"
  rw [beq_self_eq_true]
  walk_at "mine_steps"
  refine eq_wishes itemsAt_new (Grown.refl.snoc.items itemsAt_new) ?_
  walk_at "mine_steps"
  exact ret_data Grown.refl.snoc.snoc hK

end Mine

open PySem PySem.W PyProof.Rows
set_option Elab.async false
set_option linter.unusedSimpArgs false
local macro_rules | `(tactic| walk_at "mine_look") => `(tactic| (first | exact Mine.upd_eq | exact Mine.look_eq | assumption | refine Mine.upd_ne (by decide +kernel) ?_ | refine Mine.look_ne (by decide +kernel) ?_ | refine Mine.comp_free (by decide +kernel) ?_))
local macro_rules | `(tactic| walk_at "mine_fn") => `(tactic| (first | assumption | (simp only [Mine.Sig.add, Mine.baseSig, Mine.emptySig, Mine.ofString_inj, String.reduceEq, reduceIte, List.lookup_cons, List.lookup_nil, Mine.ofString_beq, String.reduceBEq]; done) | (simp only [Mine.Sig.add, Mine.baseSig, Mine.emptySig, Mine.ofString_inj, String.reduceEq, reduceIte, List.lookup_cons, List.lookup_nil, Mine.ofString_beq, String.reduceBEq]; rfl)))
local macro_rules | `(tactic| walk_at "mine_step") => `(tactic| (first
    | (with_reducible (first | refine Mine.r_thenE ?_ | refine Mine.r_noExn ?_ | refine Mine.r_next ?_ | refine Mine.r_ret ?_ | refine Mine.r_nextN ?_ | refine Mine.r_retN ?_ | refine Mine.r_nil ?_ | refine Mine.r_cons ?_ | refine Mine.r_Return ?_ | refine Mine.r_If ?_ | refine Mine.r_int ?_ | refine Mine.r_str ?_ | refine Mine.r_bool ?_ | refine Mine.r_none ?_ | refine Mine.r_BinOp ?_ | refine Mine.r_UnaryOp ?_ | refine Mine.r_BoolOp ?_ | refine Mine.r_Compare ?_ | refine Mine.r_Slice ?_ | refine Mine.r_tup1 ?_ | refine Mine.r_tup2 ?_ | refine Mine.r_tup3 ?_ | refine Mine.r_tup4 ?_ | refine Mine.r_es_nil ?_ | refine Mine.r_es_cons ?_ | refine Mine.r_o_none ?_ | refine Mine.r_o_some ?_ | refine Mine.r_o_int ?_ | refine Mine.r_cmp2 ?_ | refine Mine.r_lt ?_ | refine Mine.r_le ?_ | refine Mine.r_gt ?_ | refine Mine.r_ge ?_ | refine Mine.r_eqI ?_ | refine Mine.r_neI ?_ | refine Mine.r_eqB ?_ | refine Mine.r_neB ?_ | refine Mine.r_add ?_ | refine Mine.r_sub ?_ | refine Mine.r_usub ?_ | refine Mine.r_not ?_ | refine Mine.r_truth ?_ | refine Mine.t_and_nil ?_ | refine Mine.t_or_nil ?_ | refine Mine.t_and_cons ?_ | refine Mine.t_or_cons ?_ | refine Mine.t_if_nil ?_ | refine Mine.t_if_one ?_ | refine Mine.b_one ?_ | refine Mine.b_and ?_ | refine Mine.b_or ?_ | refine Mine.t_Compare ?_ | refine Mine.t_BoolOp ?_ | refine Mine.t_Not ?_ | refine Mine.t_Call ?_ | refine Mine.t_Name ?_))
    | ((with_reducible apply Mine.r_Assign); (focus (decide +kernel)))
    | ((with_reducible apply Mine.r_For); (focus (decide +kernel)); (focus (exact rfl)))
    | ((with_reducible apply Mine.r_name); (focus (decide +kernel)); (focus ((repeat (walk_at "mine_look")); done)))
    | ((with_reducible apply Mine.r_List); (focus (exact rfl)))
    | ((with_reducible apply Mine.r_Tuple); (focus (exact rfl)))
    | ((with_reducible apply Mine.r_Item); (focus (exact rfl)))
    | ((with_reducible apply Mine.r_Call); (focus (decide +kernel)); (focus assumption); (focus assumption); (focus (exact rfl)))
    | ((with_reducible apply Mine.r_Expr); (focus (exact rfl)))
    | ((with_reducible apply Mine.r_SetItem); (focus (exact rfl)); (focus (exact rfl)))
    | ((with_reducible apply Mine.r_Meth); (focus (exact rfl)); (focus (exact rfl)); (focus (exact rfl)); (focus decide))
    | ((with_reducible apply Mine.r_Comp); (focus (exact rfl)); (focus (decide +kernel)))
    | ((with_reducible apply Mine.r_const); (focus (decide +kernel)); (focus assumption))
    | ((with_reducible apply Mine.r_glob); (focus (decide +kernel)); (focus assumption); (focus assumption))
    | ((with_reducible apply Mine.r_cmp1); (focus (exact rfl)))
    | ((with_reducible apply Mine.r_eqS); (focus (first | assumption | decide +kernel)); (focus (first | assumption | decide +kernel)))
    | ((with_reducible apply Mine.r_neS); (focus (first | assumption | decide +kernel)); (focus (first | assumption | decide +kernel)))
    | ((with_reducible apply Mine.r_div); (focus decide))
    | ((with_reducible apply Mine.r_mod); (focus decide))
    | ((with_reducible apply Mine.r_mul); (focus (first | exact .of_right (by decide) | exact .of_left (by decide))))
    | ((with_reducible apply Mine.r_len); (focus (exact rfl)))
    | ((with_reducible apply Mine.r_ift); (focus (first | exact rfl | assumption | decide +kernel)))
    | ((with_reducible apply Mine.r_iff); (focus (first | exact rfl | assumption | decide +kernel)))
    | ((with_reducible apply Mine.r_ist); (focus (first | exact rfl | assumption | decide +kernel)))
    | ((with_reducible apply Mine.r_isf); (focus (first | exact rfl | assumption | decide +kernel)))
    | ((with_reducible apply Mine.r_itemT); (focus decide); (focus (exact rfl)))))
local macro_rules | `(tactic| walk_at "mine_steps") => `(tactic| (repeat (walk_at "mine_step")))
local macro_rules | `(tactic| walk_at "mine_paths") => `(tactic| (repeat' (first | walk_at "mine_step" | (with_reducible apply Mine.r_if) | (with_reducible apply Mine.r_is) | intro _)))
set_option maxRecDepth 100000 in
set_option maxHeartbeats 8000000 in
theorem PySem.Challenge.cw_uf040040_04_holds : PySem.Challenge.rw_uf040040_04.Holds := by
  w_on
  o_law
  k_head
  (case hw => w_witness2)
  k_fill
  intro w s₀ s₁ mg mb G Y fa o pm cd doc dV kV ho hd hcd hD hmg hg args vals as hpre hlay hrd hwl hlo
  have KX := kIn_of Y
  refine Ground.open G ?_
  intro T B D TE TW
  wrow_args hpre hlay hrd hwl hlo
  clear hd hcd hD ho KX Y B D TE TW G
  open Mine in
  refine Mine.law_end (k := 20) (X := ⟨_, w, s₁.heap, mg, mb⟩) ?_ (by decide) hmg rfl (by assumption) (by assumption) ?_
  · have cx : CxOk ⟨Challenge.rw_uf040040_04.row.prog, w, s₁.heap, mg, mb⟩ := cx_of_top T
    have cxb : CxB ⟨Challenge.rw_uf040040_04.row.prog, w, s₁.heap, mg, mb⟩ := cxb_of_top T (by decide +kernel)
    have s0 := baseSig_ok (consts := []) cxb (fun q hq => by
      cases hq)
    have s1 := s0.add (v_wanted cx s0 (by walk_at "mine_fn") (by walk_at "mine_fn") rfl (isFn_of_top T 0 (by kernel_rfl) rfl rfl rfl rfl))
    have s2 := s1.add (v_offered cx s1 (by walk_at "mine_fn") (by walk_at "mine_fn") rfl (isFn_of_top T 1 (by kernel_rfl) rfl rfl rfl rfl))
    have s3 := s2.add (v_is_enough cx s2 (by walk_at "mine_fn") (by walk_at "mine_fn") (by walk_at "mine_fn") (by walk_at "mine_fn") rfl (isFn_of_top T 2 (by kernel_rfl) rfl rfl rfl rfl))
    have s4 := s3.add (v_is_sold cx s3 (by walk_at "mine_fn") (by walk_at "mine_fn") (by walk_at "mine_fn") (by walk_at "mine_fn") rfl (isFn_of_top T 3 (by kernel_rfl) rfl rfl rfl rfl))
    have s5 := s4.add (v_clears cx s4 (by walk_at "mine_fn") (by walk_at "mine_fn") (by walk_at "mine_fn") (by walk_at "mine_fn") rfl (isFn_of_top T 4 (by kernel_rfl) rfl rfl rfl rfl))
    have s6 := s5.add (v_cell_at cx s5 (by walk_at "mine_fn") (by walk_at "mine_fn") rfl (isFn_of_top T 5 (by kernel_rfl) rfl rfl rfl rfl))
    have s7 := s6.add (v_wish_by cx s6 rfl (isFn_of_top T 6 (by kernel_rfl) rfl rfl rfl rfl))
    have s8 := s7.add (v_wishes_by cx s7 (by walk_at "mine_fn") (by walk_at "mine_fn") (by walk_at "mine_fn") (by walk_at "mine_fn") (by walk_at "mine_fn") (by walk_at "mine_fn") (by walk_at "mine_fn") (by walk_at "mine_fn") (by walk_at "mine_fn") rfl (isFn_of_top T 7 (by kernel_rfl) rfl rfl rfl rfl))
    have s9 := s8.add (v_lsum cx s8 rfl (isFn_of_top T 8 (by kernel_rfl) rfl rfl rfl rfl))
    have s10 := s9.add (v_price_by cx s9 (by walk_at "mine_fn") (by walk_at "mine_fn") (by walk_at "mine_fn") (by walk_at "mine_fn") (by walk_at "mine_fn") (by walk_at "mine_fn") rfl (isFn_of_top T 9 (by kernel_rfl) rfl rfl rfl rfl))
    have s11 := s10.add (v_lclears cx s10 (by walk_at "mine_fn") (by walk_at "mine_fn") rfl (isFn_of_top T 10 (by kernel_rfl) rfl rfl rfl rfl))
    exact v_goal cx s11 (by walk_at "mine_fn") (by walk_at "mine_fn") (by walk_at "mine_fn") (by walk_at "mine_fn") (by walk_at "mine_fn") (by walk_at "mine_fn") (by walk_at "mine_fn") (by walk_at "mine_fn") (by walk_at "mine_fn") (by walk_at "mine_fn") (by walk_at "mine_fn") (by walk_at "mine_fn") (by walk_at "mine_fn") (by walk_at "mine_fn") (by walk_at "mine_fn") (by walk_at "mine_fn") rfl (isFn_of_top T 11 (by kernel_rfl) rfl rfl rfl rfl)
  · intro h' tk hk
    exact GoodW.toG ⟨.inl ⟨_, .bool true, [], rfl, fun _ => rfl, .bool _, (by first | kernel_rfl | (with_unfolding_all rfl)), fun _ => ⟨List.nodup_nil, fun a ha => by cases ha⟩⟩, hk, rfl, hg⟩
