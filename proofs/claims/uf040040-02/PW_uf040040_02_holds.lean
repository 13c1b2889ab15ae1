import PyProof.Rows.All
import PyProof.CompFree
import PyProof.Cells
import PyProof.Rows.Top
import PyProof.StationsW
import PyProof.WalkInts
import PyProof.WalksMore
import PyProof.RangeFor
import PyProof.CompMap
import PyProof.SliceMore
import PyProof.EqLayable
import PyProof.ListOps
import PyProof.Rows.StrTemp
import PyProof.Rows.RuleB_floordiv
import PyProof.Rows.RuleB_mod
import PyProof.Rows.RuleB_mul
import PyProof.Rows.RuleU_int
import PyProof.Rows.StrRules
import PyProof.Rows.RuleC_int
import PyProof.Rows.Nodes
import PyProof.Rows.IntRules
import PyProof.Rows.EqDataRows
import PyProof.Rows.InDataRows
import PyProof.Rows.SeqCalls
import PyProof.Calls
import PyProof.Rows.Own
import PyProof.ForRange
import PyProof.Rules3
import PyProof.Dict
import PyProof.TupleIter
import PyProof.Rows.TupSub
import PyProof.CallRoads
import PyProof.RulesAs
import PyProof.NsDelKeeps
import PyProof.ExcBaseAll.ValueError
import PyProof.Raises
import PyProof.IsiPairs
import PyProof.IsiHeapPairs
import PyProof.IsiNone
import PyProof.ListCopy
import PyProof.Methods
import PyProof.StrOps
import PyProof.Rows.SumAny
import PyProof.Rows.RuleN_abs
import PyProof.FactsAll.list_0
import PyProof.Rows.Tup
import KE.KIsNot
import PyProof.ExcAttrAll.ValueError
import Wide.Well
import Wide.OfPy
import Wide.Bridge
import Wide.BridgeG
import PyProof.Rows.Walk
import Wide.All
import OpenK.AllK
import Wide.FinOn
import PySem.Challenge.RW_uf040040_02

set_option Elab.async false
set_option autoImplicit false
set_option linter.unusedVariables false
namespace Mine
open PySem PySem.Spec PySem.Calls PyProof.Rows

/-- abstract values: flat data; a cell of the store; an exception of an own class; a global name's value; a range; a zip of two lists -/
inductive V where
  | d (x : PyData)
  | ref (i : Nat)
  | exc (c : Str)
  | glob (x : Str)
  | rng (lo hi : Int)
  | zip (i j : Nat)

inductive Cell where
  | lst (xs : List V)
  | rol (xs : List V)
  | dct

noncomputable def Cell.items : Cell → List V
  | .lst xs => xs
  | .rol xs => xs
  | .dct => []
noncomputable def Cell.list? : Cell → Option (List V)
  | .lst xs => some xs
  | .rol xs => some xs
  | .dct => none
noncomputable def Cell.owned : Cell → Bool
  | .lst _ => true
  | .rol _ => false
  | .dct => true
/-- the object of a cell -/
noncomputable def Cell.Shape (c : Cell) (o : Obj) (items : List Value) : Prop :=
  match c with
  | .dct => o.cls = .type "dict" ∧ ∃ es n, o.data = .dict es n
  | _ => ∃ n, o = { cls := .type "list", data := .seq items.toArray n }

noncomputable abbrev Store := List Cell
noncomputable abbrev Loc := Str → Option V

/-- the fixed surroundings of a law's call -/
structure Cx where
  prog : Program
  w : World
  B : Heap
  mg : Str → Option Value
  mb : Str → Option Value

structure CxOk (X : Cx) : Prop where
  g : X.B.Ns mainGlobals X.mg
  b : X.B.Ns builtinsNs X.mb
  nolimit : X.B.NoLimit

noncomputable def Cx.val (X : Cx) (x : Str) : Option Value := (X.mg x).or (X.mb x)

inductive Has (X : Cx) (n : Nat) (ρ : Nat → Addr) (h : Heap) : V → Value → Prop
  | d {x v} : Reads h v x [] → Has X n ρ h (.d x) v
  | ref {i} : i < n → Has X n ρ h (.ref i) (.ref (ρ i))
  | exc {c C a o fs} : X.mg c = some (.ref C) → h.get? a = some o → o.cls = .ref C → o.data = .fields fs → o.dict = none → Has X n ρ h (.exc c) (.ref a)
  | glob {x v} : X.val x = some v → Has X n ρ h (.glob x) v
  | rng {lo hi a t u v} : IsRange h a lo hi 1 t u v → Builtin.Range.small lo hi 1 = true → Has X n ρ h (.rng lo hi) (.ref a)

inductive HasAll (X : Cx) (n : Nat) (ρ : Nat → Addr) (h : Heap) : List V → List Value → Prop
  | nil : HasAll X n ρ h [] []
  | cons {v vs a as} : Has X n ρ h v a → HasAll X n ρ h vs as → HasAll X n ρ h (v :: vs) (a :: as)

noncomputable def CellAt (X : Cx) (n : Nat) (ρ : Nat → Addr) (h : Heap) (a : Addr) (c : Cell) : Prop :=
  ∃ (o : Obj) (items : List Value), h.get? a = some o ∧ c.Shape o items ∧ HasAll X n ρ h c.items items

theorem Cell.Shape.is {c : Cell} {o : Obj} {items : List Value} (s : c.Shape o items) : o.cls = .type "list" ∧ (∃ vs n, o.data = .seq vs n) ∨ o.cls = .type "dict" ∧ ∃ es n, o.data = .dict es n := by
  cases c with
  | dct => exact .inr s
  | lst xs => obtain ⟨n, rfl⟩ := s; exact .inl ⟨rfl, _, _, rfl⟩
  | rol xs => obtain ⟨n, rfl⟩ := s; exact .inl ⟨rfl, _, _, rfl⟩

structure Rep (X : Cx) (ρ : Nat → Addr) (σ : Store) (h : Heap) : Prop where
  base : ∀ b o, X.B.get? b = some o → h.get? b = some o
  cell : ∀ i c, σ[i]? = some c → CellAt X σ.length ρ h (ρ i) c
  own : ∀ i c, σ[i]? = some c → c.owned = true → X.B.get? (ρ i) = none
  inj : ∀ i j, i < σ.length → j < σ.length → ρ i = ρ j → i = j

noncomputable def NoDict (o : Obj) : Prop := ∀ es n, o.data ≠ .dict es n

/-- what an evaluation that may write at W (and at the store's cells) leaves of the heap before it -/
structure Go (W : Addr → Prop) (σ : Store) (ρ : Nat → Addr) (h : Heap) (σ' : Store) (ρ' : Nat → Addr) (h' : Heap) : Prop where
  size : h.objs.size ≤ h'.objs.size
  keep : ∀ b o, h.get? b = some o → ¬ W b → (∀ i, i < σ.length → b ≠ ρ i) → ∃ sl, h'.get? b = some { o with slots := sl } ∧ (NoDict o → sl = o.slots)
  dicts : ∀ b o es n, h.get? b = some o → o.data = .dict es n → ∃ o' es' n', h'.get? b = some o' ∧ o'.data = .dict es' n'
  len : σ.length ≤ σ'.length
  ext : ∀ i, i < σ.length → ρ' i = ρ i
  new : ∀ i, σ.length ≤ i → i < σ'.length → h.objs.size ≤ ρ' i

noncomputable abbrev Nowhere : Addr → Prop := fun _ => False

theorem Go.refl (W : Addr → Prop) (σ : Store) (ρ : Nat → Addr) (h : Heap) : Go W σ ρ h σ ρ h :=
  ⟨Nat.le_refl _, fun b o e _ _ => ⟨o.slots, e, fun _ => rfl⟩, fun b o es n e d => ⟨o, es, n, e, d⟩, Nat.le_refl _, fun _ _ => rfl, fun _ h1 h2 => absurd h2 (Nat.not_lt.mpr h1)⟩

theorem Go.trans {W : Addr → Prop} {σ₁ σ₂ σ₃ : Store} {ρ₁ ρ₂ ρ₃ : Nat → Addr} {h₁ h₂ h₃ : Heap} (x : Go W σ₁ ρ₁ h₁ σ₂ ρ₂ h₂) (y : Go W σ₂ ρ₂ h₂ σ₃ ρ₃ h₃) : Go W σ₁ ρ₁ h₁ σ₃ ρ₃ h₃ where
  size := Nat.le_trans x.size y.size
  keep := fun b o e hw hb => by
    obtain ⟨sl, e1, f1⟩ := x.keep b o e hw hb
    have hb2 : ∀ i, i < σ₂.length → b ≠ ρ₂ i := fun i hi => by
      by_cases hlt : i < σ₁.length
      · rw [x.ext i hlt]; exact hb i hlt
      · exact Nat.ne_of_lt (Nat.lt_of_lt_of_le (Heap.lt_size e) (x.new i (Nat.not_lt.mp hlt) hi))
    obtain ⟨sl', e2, f2⟩ := y.keep b _ e1 hw hb2
    exact ⟨sl', e2, fun hc => (f2 hc).trans (f1 hc)⟩
  dicts := fun b o es n e d => by
    obtain ⟨o', es', n', e', d'⟩ := x.dicts b o es n e d
    exact y.dicts b o' es' n' e' d'
  len := Nat.le_trans x.len y.len
  ext := fun i hi => (y.ext i (Nat.lt_of_lt_of_le hi x.len)).trans (x.ext i hi)
  new := fun i h1 h2 => by
    by_cases hlt : i < σ₂.length
    · rw [y.ext i hlt]; exact x.new i h1 hlt
    · exact Nat.le_trans x.size (y.new i (Nat.not_lt.mp hlt) h2)

theorem Go.weaken {W W' : Addr → Prop} {σ σ' : Store} {ρ ρ' : Nat → Addr} {h h' : Heap} (x : Go W σ ρ h σ' ρ' h') (hw : ∀ b o, h.get? b = some o → W b → W' b) : Go W' σ ρ h σ' ρ' h' :=
  { x with keep := fun b o e hn hb => x.keep b o e (fun q => hn (hw b o e q)) hb }

mutual
theorem reads_flat {h h' : Heap} (hk : ∀ b o, h.get? b = some o → o.cls = .type "tuple" → (∃ vs n, o.data = .seq vs n) → h'.get? b = some o) : ∀ {v : Value} {d : PyData} {as : List Addr}, Reads h v d as → as = [] → Reads h' v d as
  | _, _, _, .none, _ => .none
  | _, _, _, .bool b, _ => .bool b
  | _, _, _, .int i t, _ => .int i t
  | _, _, _, .str x t, _ => .str x t
  | _, _, _, .list _ _ _ _, e => nomatch e
  | _, _, _, .tuple h1 h2 h3 h4, e => .tuple (hk _ _ h1 h2 ⟨_, _, h3⟩) h2 h3 (readsAll_flat hk h4 e)
  | _, _, _, .dict _ _ _ _ _, e => nomatch e
theorem readsAll_flat {h h' : Heap} (hk : ∀ b o, h.get? b = some o → o.cls = .type "tuple" → (∃ vs n, o.data = .seq vs n) → h'.get? b = some o) : ∀ {vs : List Value} {ds : List PyData} {as : List Addr}, ReadsAll h vs ds as → as = [] → ReadsAll h' vs ds as
  | _, _, _, .nil, _ => .nil
  | _, _, _, .cons h1 h2, e => .cons (reads_flat hk h1 (List.append_eq_nil_iff.mp e).1) (readsAll_flat hk h2 (List.append_eq_nil_iff.mp e).2)
end

noncomputable def iterTypes : List String := ["list_iterator", "tuple_iterator", "range_iterator", "zip", "str_ascii_iterator", "str_iterator"]

/-- objects that no evaluation turns -/
structure Still (o : Obj) : Prop where
  cls : o.cls ≠ .type "list"
  noiter : ∀ T ∈ iterTypes, o.cls ≠ .type T
  nodict : NoDict o
  nocell : ∀ v, o.data ≠ .cell v

theorem Still.tuple {o : Obj} (hc : o.cls = .type "tuple") {vs n} (hd : o.data = .seq vs n) : Still o :=
  ⟨by rw [hc]; decide, by rw [hc]; decide, fun es n' e => by rw [hd] at e; (exact nomatch e), fun v e => by rw [hd] at e; (exact nomatch e)⟩
theorem Still.fields {o : Obj} (hc : o.cls ≠ .type "list") (hi : ∀ T ∈ iterTypes, o.cls ≠ .type T) {vs} (hd : o.data = .fields vs) : Still o :=
  ⟨hc, hi, fun es n' e => by rw [hd] at e; (exact nomatch e), fun v e => by rw [hd] at e; (exact nomatch e)⟩

section
variable {X : Cx} {n n' : Nat} {ρ ρ' : Nat → Addr} {h h' : Heap} {σ σ' : Store} {W : Addr → Prop}

theorem HasAll.length {vs : List V} {as : List Value} (x : HasAll X n ρ h vs as) : vs.length = as.length := by
  induction x with
  | nil => rfl
  | cons _ _ ih => simp [ih]

theorem HasAll.get {vs : List V} {as : List Value} (x : HasAll X n ρ h vs as) {k : Nat} {v : V} (hv : vs[k]? = some v) : ∃ a, as[k]? = some a ∧ Has X n ρ h v a := by
  induction x generalizing k with
  | nil => simp at hv
  | cons h1 _ ih =>
    cases k with
    | zero => simp at hv; subst hv; exact ⟨_, rfl, h1⟩
    | succ k => simpa using ih (by simpa using hv)

theorem HasAll.append {vs ws : List V} {as bs : List Value} (x : HasAll X n ρ h vs as) (y : HasAll X n ρ h ws bs) : HasAll X n ρ h (vs ++ ws) (as ++ bs) := by
  induction x with
  | nil => exact y
  | cons h1 _ ih => exact .cons h1 ih

theorem HasAll.one {v : V} {a : Value} (x : Has X n ρ h v a) : HasAll X n ρ h [v] [a] := .cons x .nil

theorem Has.mono {v : V} {a : Value} (x : Has X n ρ h v a) (hn : n ≤ n') (hρ : ∀ i, i < n → ρ' i = ρ i)
    (hk : ∀ b o, h.get? b = some o → Still o → h'.get? b = some o) : Has X n' ρ' h' v a := by
  cases x with
  | d r => exact .d (reads_flat (fun b o e hc hs => let ⟨_, _, hd⟩ := hs; hk b o e (.tuple hc hd)) r rfl)
  | ref hi => rw [← hρ _ hi]; exact .ref (Nat.lt_of_lt_of_le hi hn)
  | exc h1 h2 h3 h4 h5 => exact .exc h1 (hk _ _ h2 (.fields (by rw [h3]; exact fun e => nomatch e) (by rw [h3]; exact fun _ _ e => nomatch e) h4)) h3 h4 h5
  | glob h1 => exact .glob h1
  | rng h1 h2 => exact .rng (hk _ _ h1 (.fields (show Value.type "range" ≠ .type "list" by decide) (show ∀ T ∈ iterTypes, Value.type "range" ≠ .type T by decide) rfl)) h2

theorem HasAll.mono {vs : List V} {as : List Value} (x : HasAll X n ρ h vs as) (hn : n ≤ n') (hρ : ∀ i, i < n → ρ' i = ρ i)
    (hk : ∀ b o, h.get? b = some o → Still o → h'.get? b = some o) : HasAll X n' ρ' h' vs as := by
  induction x with
  | nil => exact .nil
  | cons h1 _ ih => exact .cons (h1.mono hn hρ hk) ih

theorem Rep.notCell (R : Rep X ρ σ h) {b : Addr} {o : Obj} (e : h.get? b = some o) (ho : o.cls ≠ .type "list") (hd : NoDict o) : ∀ i, i < σ.length → b ≠ ρ i := by
  rintro i hi rfl
  obtain ⟨oc, items, hp, sh, _⟩ := R.cell i _ (List.getElem?_eq_getElem hi)
  rw [hp] at e
  cases e
  rcases sh.is with ⟨q, _⟩ | ⟨_, es, n, q⟩
  · exact ho q
  · exact hd _ _ q

/-- W holds namespaces and cells alone -/
noncomputable def WOk (W : Addr → Prop) (h : Heap) : Prop := ∀ b o, W b → h.get? b = some o → (∃ es n, o.data = .dict es n) ∨ ∃ v, o.data = .cell v

theorem WOk.nowhere : WOk Nowhere h := fun _ _ x => x.elim

theorem Go.still (R : Rep X ρ σ h) (g : Go W σ ρ h σ' ρ' h') (w : WOk W h) : ∀ b o, h.get? b = some o → Still o → h'.get? b = some o := by
  intro b o e hs
  have hnw : ¬ W b := fun q => by
    rcases w b o q e with ⟨es, n, hd⟩ | ⟨v, hd⟩
    · exact hs.nodict es n hd
    · exact hs.nocell v hd
  obtain ⟨sl, e1, f1⟩ := g.keep b o e hnw (R.notCell e hs.cls hs.nodict)
  rw [f1 hs.nodict] at e1
  exact e1

theorem Has.go {v : V} {a : Value} (x : Has X σ.length ρ h v a) (R : Rep X ρ σ h) (g : Go W σ ρ h σ' ρ' h') (w : WOk W h) : Has X σ'.length ρ' h' v a :=
  x.mono g.len g.ext (g.still R w)
theorem HasAll.go {vs : List V} {as : List Value} (x : HasAll X σ.length ρ h vs as) (R : Rep X ρ σ h) (g : Go W σ ρ h σ' ρ' h') (w : WOk W h) : HasAll X σ'.length ρ' h' vs as :=
  x.mono g.len g.ext (g.still R w)
end

/-- the addresses that a frame writes at -/
noncomputable def Wr (env : Env) : Addr → Prop := fun b => b = env.locals ∨ ∃ x, env.cells.lookup x = some b

noncomputable abbrev Kinds := Str → Option NameKind

structure KindsOk (sc : Kinds) (env : Env) : Prop where
  loc : ∀ x, sc x = some .local → env.kindOf x = some .local
  cell : ∀ x, sc x = some .cell → env.kindOf x = some .cell
  free : ∀ x, sc x = some .free → env.kindOf x = some .cell ∨ env.kindOf x = some .free
  glob : ∀ x, sc x = some .globalImplicit → env.kindOf x = some .globalImplicit
  debug : sc ("__debug__" : Str) = none
  classdict : sc ("__classdict__" : Str) = none

/-- the frame at hand: its names -/
structure Frm (X : Cx) (env : Env) (sc : Kinds) (m : Loc) (n : Nat) (ρ : Nat → Addr) (h : Heap) : Prop where
  kind : env.scope.kind = .function
  glob : env.globals = mainGlobals
  bi : env.builtins = builtinsNs
  kinds : KindsOk sc env
  ns : ∃ mm, h.Ns env.locals mm ∧ ∀ x v, sc x = some .local → m x = some v → ∃ a, mm x = some a ∧ Has X n ρ h v a
  cells : ∀ x, sc x = some .cell ∨ sc x = some .free → ∃ c ov, env.cells.lookup x = some c ∧ h.IsCell c ov ∧ ∀ v, m x = some v → ∃ a, ov = some a ∧ Has X n ρ h v a
  isCells : ∀ x c, env.cells.lookup x = some c → ∃ ov, h.IsCell c ov
  sepL : ∀ i, i < n → ρ i ≠ env.locals
  newL : X.B.get? env.locals = none
  newC : ∀ x c, env.cells.lookup x = some c → X.B.get? c = none
  apart : ∀ x y c, env.cells.lookup x = some c → env.cells.lookup y = some c → x = y

theorem Frm.wok {X : Cx} {env : Env} {sc : Kinds} {m : Loc} {n : Nat} {ρ : Nat → Addr} {h : Heap} (F : Frm X env sc m n ρ h) : WOk (Wr env) h := by
  rintro b o (rfl | ⟨x, hx⟩) e
  · obtain ⟨mm, ⟨o', es, ep, e', d, _⟩, _⟩ := F.ns
    rw [e] at e'; cases e'
    exact .inl ⟨es, ep, d⟩
  · obtain ⟨ov, o', e', d⟩ := F.isCells x b hx
    rw [e] at e'; cases e'
    exact .inr ⟨ov, d⟩

/-- an expression's evaluation leaves the frame's names -/
theorem Frm.go {X : Cx} {env : Env} {sc : Kinds} {m : Loc} {σ σ' : Store} {ρ ρ' : Nat → Addr} {h h' : Heap} (F : Frm X env sc m σ.length ρ h) (R : Rep X ρ σ h) (g : Go Nowhere σ ρ h σ' ρ' h') : Frm X env sc m σ'.length ρ' h' := by
  have hnc : ∀ c ov, h.IsCell c ov → h'.IsCell c ov := fun c ov ⟨o, e, d⟩ => by
    have hne : ∀ i, i < σ.length → c ≠ ρ i := by
      rintro i hi rfl
      obtain ⟨oc, items, hp, sh, _⟩ := R.cell i _ (List.getElem?_eq_getElem hi)
      rw [hp] at e; cases e
      rcases sh.is with ⟨_, _, _, q⟩ | ⟨_, _, _, q⟩ <;> (rw [q] at d; cases d)
    obtain ⟨sl, e1, _⟩ := g.keep c o e (fun x => x) hne
    exact ⟨_, e1, d⟩
  refine { F with ns := ?_, cells := ?_, isCells := ?_, sepL := ?_ }
  · obtain ⟨mm, ⟨o, es, ep, e, d, r⟩, hm⟩ := F.ns
    obtain ⟨sl, e1, _⟩ := g.keep _ o e (fun x => x) (fun i hi q => F.sepL i hi q.symm)
    exact ⟨mm, ⟨_, es, ep, e1, d, r⟩, fun x v h1 h2 => let ⟨a, h3, h4⟩ := hm x v h1 h2; ⟨a, h3, h4.go R g .nowhere⟩⟩
  · intro x hx
    obtain ⟨c, ov, h1, h2, h3⟩ := F.cells x hx
    exact ⟨c, ov, h1, hnc c ov h2, fun v hv => let ⟨a, h4, h5⟩ := h3 v hv; ⟨a, h4, h5.go R g .nowhere⟩⟩
  · intro x c hx
    obtain ⟨ov, h1⟩ := F.isCells x c hx
    exact ⟨ov, hnc c ov h1⟩
  · intro i hi
    by_cases hlt : i < σ.length
    · rw [g.ext i hlt]; exact F.sepL i hlt
    · obtain ⟨mm, ⟨o, es, ep, e, d, r⟩, hm⟩ := F.ns
      exact Nat.ne_of_gt (Nat.lt_of_lt_of_le (Heap.lt_size e) (g.new i (Nat.not_lt.mp hlt) hi))

/-- the frames of the stack -/
noncomputable def Frames (X : Cx) (h : Heap) (l : List Env) : Prop := ∀ env ∈ l, env.scope.kind ≠ .module ∧ ∃ L o es n, env.frame = some L ∧ X.B.get? L = none ∧ h.get? L = some o ∧ o.data = .dict es n

theorem Frames.go {X : Cx} {W : Addr → Prop} {σ σ' : Store} {ρ ρ' : Nat → Addr} {h h' : Heap} {l : List Env} (F : Frames X h l) (g : Go W σ ρ h σ' ρ' h') : Frames X h' l := by
  intro env he
  obtain ⟨h1, L, o, es, n, h2, h3, h4, h5⟩ := F env he
  obtain ⟨o', es', n', h6, h7⟩ := g.dicts L o es n h4 h5
  exact ⟨h1, L, o', es', n', h2, h3, h6, h7⟩

/-- the room, and the stack -/
structure Ar (X : Cx) (k : Nat) (A : Around) (env : Env) (h : Heap) : Prop where
  handled : 100 ≤ k → A.handled = none
  depth : A.depth + k < recursionLimit
  units : A.units + 20 * k + 200 < cLine
  stack : ∃ fenv outer, A.frames = some (fenv :: outer) ∧ fenv.frame = env.frame ∧ Frames X h (fenv :: outer)

/-- the room, whatever frame calls -/
structure ArC (X : Cx) (k : Nat) (A : Around) (h : Heap) : Prop where
  handled : 100 ≤ k → A.handled = none
  depth : A.depth + k < recursionLimit
  units : A.units + 20 * k + 200 < cLine
  stack : ∃ l, A.frames = some l ∧ Frames X h l

theorem Ar.c {X : Cx} {k : Nat} {A : Around} {env : Env} {h : Heap} (a : Ar X k A env h) : ArC X k A h :=
  ⟨a.handled, a.depth, a.units, let ⟨f, o, h1, _, h3⟩ := a.stack; ⟨f :: o, h1, h3⟩⟩

theorem Ar.go {X : Cx} {k : Nat} {A : Around} {env : Env} {W : Addr → Prop} {σ σ' : Store} {ρ ρ' : Nat → Addr} {h h' : Heap} (a : Ar X k A env h) (g : Go W σ ρ h σ' ρ' h') : Ar X k A env h' :=
  { a with stack := let ⟨f, o, h1, h2, h3⟩ := a.stack; ⟨f, o, h1, h2, h3.go g⟩ }

theorem Ar.reframe {X : Cx} {k : Nat} {A : Around} {env env' : Env} {h : Heap} (a : Ar X k A env h) (e : env'.frame = env.frame) : Ar X k A env' h :=
  { a with stack := let ⟨f, o, h1, h2, h3⟩ := a.stack; ⟨f, o, h1, h2.trans e.symm, h3⟩ }

/-- an own exception on its way through the frame env -/
structure Flies (X : Cx) (c : Str) (fr : Option Addr) (sz : Nat) (e : Addr) (h : Heap) : Prop where
  ex : ∃ C oe vs, X.mg c = some (.ref C) ∧ h.get? e = some oe ∧ oe.cls = .ref C ∧ (oe.data = .fields vs ∧ oe.dict = none) ∧ 1 < vs.size ∧
    (vs[1]? = some .none ∨ ∃ T oT ts, vs[1]? = some (.ref T) ∧ T ≠ e ∧ sz ≤ T ∧ h.get? T = some oT ∧ oT.data = .fields ts ∧ oT.cls = .type "traceback" ∧ 3 < ts.size ∧ (ts[3]? = some .none ∨ ∃ F, fr = some F ∧ ts[3]? = some (rawInt F)))
  new : sz ≤ e

theorem Flies.sz {X : Cx} {c : Str} {fr : Option Addr} {a b : Nat} {e : Addr} {h : Heap} (x : Flies X c fr a e h) (hab : b ≤ a) : Flies X c fr b e h := by
  obtain ⟨⟨C, oe, vs, h1, h2, h3, h4, h5, h6⟩, hn⟩ := x
  refine ⟨⟨C, oe, vs, h1, h2, h3, h4, h5, h6.imp id ?_⟩, Nat.le_trans hab hn⟩
  rintro ⟨T, oT, ts, a1, a2, a3, r⟩
  exact ⟨T, oT, ts, a1, a2, Nat.le_trans hab a3, r⟩

theorem Flies.any {X : Cx} {c : Str} {fr : Option Addr} {a : Nat} {e : Addr} {h : Heap} (x : Flies X c none a e h) : Flies X c fr a e h := by
  obtain ⟨⟨C, oe, vs, h1, h2, h3, h4, h5, h6⟩, hn⟩ := x
  refine ⟨⟨C, oe, vs, h1, h2, h3, h4, h5, h6.imp id ?_⟩, hn⟩
  rintro ⟨T, oT, ts, a1, a2, a3, a4, a5, a6, a7, a8⟩
  exact ⟨T, oT, ts, a1, a2, a3, a4, a5, a6, a7, a8.imp id fun ⟨F, q, _⟩ => nomatch q⟩

inductive OutE where
  | val (v : V) (σ : Store)
  | exn (c : Str) (σ : Store)
inductive OutS where
  | next (m : Loc) (σ : Store)
  | ret (v : V) (σ : Store)
  | exn (c : Str) (m : Loc) (σ : Store)

noncomputable def OkE (X : Cx) (σ : Store) (ρ : Nat → Addr) (s : Shared) (K : OutE → Prop) (Q : Value → Shared → Prop) : Prop :=
  ∀ v σ' ρ' a h' tk, K (.val v σ') → Rep X ρ' σ' h' → Go Nowhere σ ρ s.heap σ' ρ' h' → Has X σ'.length ρ' h' v a → Q a { s with heap := h', toks := tk }
noncomputable def ErE (X : Cx) (fr : Option Addr) (σ : Store) (ρ : Nat → Addr) (s : Shared) (K : OutE → Prop) (E : Value → Shared → Prop) : Prop :=
  ∀ c σ' ρ' e h' tk, K (.exn c σ') → Rep X ρ' σ' h' → Go Nowhere σ ρ s.heap σ' ρ' h' → Flies X c fr s.heap.objs.size e h' → E (.ref e) { s with heap := h', toks := tk }

/-- what the tree t makes of m, σ -/
noncomputable def SE (X : Cx) (k : Nat) (env : Env) (sc : Kinds) (t : Sem Value) (m : Loc) (σ : Store) (K : OutE → Prop) : Prop :=
  ∀ (A : Around) (s : Shared) (ρ : Nat → Addr) (Q E : Value → Shared → Prop), Ar X k A env s.heap → Rep X ρ σ s.heap → Frm X env sc m σ.length ρ s.heap →
    OkE X σ ρ s K Q → ErE X env.frame σ ρ s K E → wpAny (model X.prog X.w) A t Q E s

noncomputable def SS (X : Cx) (k : Nat) (env : Env) (sc : Kinds) (t : Sem Flow) (m : Loc) (σ : Store) (K : OutS → Prop) : Prop :=
  ∀ (A : Around) (s : Shared) (ρ : Nat → Addr) (Q : Flow → Shared → Prop) (E : Value → Shared → Prop), Ar X k A env s.heap → Rep X ρ σ s.heap → Frm X env sc m σ.length ρ s.heap →
    (∀ m' σ' ρ' h' tk, K (.next m' σ') → Rep X ρ' σ' h' → Go (Wr env) σ ρ s.heap σ' ρ' h' → Frm X env sc m' σ'.length ρ' h' → Q .next { s with heap := h', toks := tk }) →
    (∀ v σ' ρ' a h' tk, K (.ret v σ') → Rep X ρ' σ' h' → Go (Wr env) σ ρ s.heap σ' ρ' h' → (∃ m', Frm X env sc m' σ'.length ρ' h') → Has X σ'.length ρ' h' v a → Q (.ret a) { s with heap := h', toks := tk }) →
    (∀ c m' σ' ρ' e h' tk, K (.exn c m' σ') → Rep X ρ' σ' h' → Go (Wr env) σ ρ s.heap σ' ρ' h' → Frm X env sc m' σ'.length ρ' h' → Flies X c env.frame s.heap.objs.size e h' → E (.ref e) { s with heap := h', toks := tk }) →
    wpAny (model X.prog X.w) A t Q E s

noncomputable def thenE (K : OutE → Prop) (f : V → Store → Prop) : OutE → Prop
  | .val v σ => f v σ
  | .exn c σ => K (.exn c σ)

section
variable {X : Cx} {k : Nat} {env : Env} {sc : Kinds} {m : Loc} {σ : Store} {K : OutE → Prop}

theorem ErE.after {fr : Option Addr} {σ₁ : Store} {ρ ρ₁ : Nat → Addr} {s : Shared} {h₁ : Heap} {tk : Nat} {E : Value → Shared → Prop} (x : ErE X fr σ ρ s K E) (g : Go Nowhere σ ρ s.heap σ₁ ρ₁ h₁) : ErE X fr σ₁ ρ₁ { s with heap := h₁, toks := tk } K E :=
  fun c σ' ρ' e h' tk' hK R' g' fl => x c σ' ρ' e h' tk' hK R' (g.trans g') (fl.sz g.size)
theorem OkE.after {σ₁ : Store} {ρ ρ₁ : Nat → Addr} {s : Shared} {h₁ : Heap} {tk : Nat} {Q : Value → Shared → Prop} (x : OkE X σ ρ s K Q) (g : Go Nowhere σ ρ s.heap σ₁ ρ₁ h₁) : OkE X σ₁ ρ₁ { s with heap := h₁, toks := tk } K Q :=
  fun v σ' ρ' a h' tk' hK R' g' hv => x v σ' ρ' a h' tk' hK R' (g.trans g') hv

theorem ErE.none {fr : Option Addr} {ρ : Nat → Addr} {s : Shared} {E : Value → Shared → Prop} (x : ErE X fr σ ρ s K E) : ErE X none σ ρ s K E :=
  fun c σ' ρ' e h' tk' hK R' g' fl => x c σ' ρ' e h' tk' hK R' g' fl.any

/-- one evaluation behind another -/
theorem SE.andThen {t : Sem Value} {f : V → Store → Prop} {A : Around} {s : Shared} {ρ : Nat → Addr} {Q E : Value → Shared → Prop} (x : SE X k env sc t m σ (thenE K f))
    (ar : Ar X k A env s.heap) (R : Rep X ρ σ s.heap) (F : Frm X env sc m σ.length ρ s.heap) (er : ErE X env.frame σ ρ s K E)
    (h : ∀ v σ₁ ρ₁ a h₁ tk, f v σ₁ → Rep X ρ₁ σ₁ h₁ → Go Nowhere σ ρ s.heap σ₁ ρ₁ h₁ → Has X σ₁.length ρ₁ h₁ v a → Ar X k A env h₁ → Frm X env sc m σ₁.length ρ₁ h₁ → Q a { s with heap := h₁, toks := tk }) :
    wpAny (model X.prog X.w) A t Q E s :=
  x A s ρ Q E ar R F (fun v σ₁ ρ₁ a h₁ tk hf R₁ g hv => h v σ₁ ρ₁ a h₁ tk hf R₁ g hv (ar.go g) (F.go R g)) er
end
end Mine

set_option Elab.async false
set_option autoImplicit false
set_option linter.unusedVariables false
namespace Mine
open PySem PySem.Spec PySem.Calls PyProof.Rows

noncomputable abbrev Contract := List V → Store → (OutE → Prop) → Prop

/-- what is known of the global names: contracts of functions and of methods, constants, names that stand, own exception classes with their own kin -/
structure Sig where
  fn : Str → Option Contract
  const : Str → Option PyData
  knows : Str → Bool
  exc : Str → Bool
  calm : Bool
  fnH : Str → Option Contract

/-- what is known within a handler -/
noncomputable def Sig.hand (Γ : Sig) : Sig := { Γ with fn := Γ.fnH, calm := false }

/-- the own exceptions' family: is one of c also one of D? -/
noncomputable def kinB (c D : Str) : Bool := c == D || D == ("BidError" : Str) || D == ("ValueError" : Str)

noncomputable def itemsAt (σ : Store) (i : Nat) : Option (List V) := (σ[i]?).bind Cell.list?

/-- the data of a value, through the store -/
noncomputable def dataOf (σ : Store) : Nat → V → Option PyData
  | _, .d x => some x
  | n + 1, .ref i => (itemsAt σ i).bind fun xs => (xs.mapM (dataOf σ n)).map .list
  | _, _ => none

noncomputable def truthW : V → Option Bool
  | .d (.bool b) => some b
  | _ => none

noncomputable def binW (op : Operator) (a b : V) (σ : Store) (K : OutE → Prop) : Prop :=
  match op, a, b with
  | .Add, .d (.int i), .d (.int j) => K (.val (.d (.int (i + j))) σ)
  | .Sub, .d (.int i), .d (.int j) => K (.val (.d (.int (i - j))) σ)
  | .FloorDiv, .d (.int i), .d (.int j) => (0 < j ∧ j < 1073741824) ∧ K (.val (.d (.int (i.fdiv j))) σ)
  | .Mod, .d (.int i), .d (.int j) => j ≠ 0 ∧ K (.val (.d (.int (i.fmod j))) σ)
  | .Add, .d (.str x), .d (.str y) => x.length + y.length ≤ sizeLine ∧ K (.val (.d (.str (x ++ y))) σ)
  | _, _, _ => False

noncomputable def cmpW (op : CmpOp) (a b : V) (σ : Store) (K : Bool → Prop) : Prop :=
  match op, a, b with
  | .Lt, .d (.int i), .d (.int j) => K (decide (i < j))
  | .LtE, .d (.int i), .d (.int j) => K (decide (i ≤ j))
  | .GtE, .d (.int i), .d (.int j) => K (decide (j ≤ i))
  | .Eq, a, b => ∃ x y, dataOf σ 3 a = some x ∧ dataOf σ 3 b = some y ∧ SeqAt.shaped x = true ∧ SeqAt.shaped y = true ∧ K (PyData.eqv x y)
  | .NotIn, .d x, .d (.tuple ys) => SeqAt.shaped x = true ∧ PyData.canLayAll0 ys = true ∧ K (!(ys.any fun y => PyData.eqv y x))
  | .NotEq, a, b => ∃ x y, dataOf σ 3 a = some x ∧ dataOf σ 3 b = some y ∧ SeqAt.shaped x = true ∧ SeqAt.shaped y = true ∧ K (!PyData.eqv x y)
  | _, _, _ => False

noncomputable def unW (op : UnaryOp) (a : V) (σ : Store) (K : OutE → Prop) : Prop :=
  match op, a with
  | .USub, .d (.int i) => K (.val (.d (.int (-i))) σ)
  | .Not, a => ∃ b, truthW a = some b ∧ K (.val (.d (.bool (!b))) σ)
  | _, _ => False

/-- an item at a written or reckoned place in bounds -/
noncomputable def itemW (a i : V) (σ : Store) (K : OutE → Prop) : Prop :=
  match a, i with
  | .ref l, .d (.int k) => ∃ xs v, itemsAt σ l = some xs ∧ (0 ≤ k ∧ k < 2 ^ 63) ∧ xs[k.toNat]? = some v ∧ K (.val v σ)
  | .d (.tuple xs), .d (.int k) => ∃ x, (0 ≤ k ∧ k < 2 ^ 63) ∧ xs[k.toNat]? = some x ∧ K (.val (.d x) σ)
  | _, _ => False

noncomputable def nameW (Γ : Sig) (sc : Kinds) (x : Str) (m : Loc) (σ : Store) (K : OutE → Prop) : Prop :=
  match sc x with
  | some .local | some .cell | some .free => ∃ v, m x = some v ∧ K (.val v σ)
  | some .globalImplicit => (match Γ.const x with
      | some d => K (.val (.d d) σ)
      | none => Γ.knows x = true ∧ K (.val (.glob x) σ))
  | _ => False

noncomputable def constW (c : Const) (σ : Store) (K : OutE → Prop) : Prop :=
  match c with
  | .none => K (.val (.d .none) σ)
  | .bool b => K (.val (.d (.bool b)) σ)
  | .int i => K (.val (.d (.int i)) σ)
  | .str x => K (.val (.d (.str x)) σ)
  | _ => False

noncomputable def upd (m : Loc) (x : Str) (v : V) : Loc := fun y => if y = x then some v else m y

noncomputable def kindsOf (names : List (Str × NameKind)) : Kinds := fun y => names.lookup y

noncomputable abbrev Ev := Expr → Loc → Store → (OutE → Prop) → Prop
noncomputable abbrev Tv := Expr → Loc → Store → (OutE → Prop) → (Bool → Store → Prop) → Prop

noncomputable def noStar : Expr → Bool
  | .Starred _ _ => false
  | _ => true

noncomputable def noSlice : Expr → Bool
  | .Slice _ _ _ _ => false
  | _ => true

noncomputable def wpEs (ev : Ev) : List Expr → Loc → Store → (OutE → Prop) → (List V → Store → Prop) → Prop
  | [], m, σ, K, f => f [] σ
  | e :: r, m, σ, K, f => ev e m σ (thenE K fun v σ => wpEs ev r m σ K fun vs σ => f (v :: vs) σ)

noncomputable def wpBools (ev : Ev) (op : BoolOp) : List Expr → Loc → Store → (OutE → Prop) → Prop
  | [], _, _, _ => False
  | [e], m, σ, K => ev e m σ K
  | e :: r, m, σ, K => ev e m σ (thenE K fun v σ => ∃ b, truthW v = some b ∧ (match op, b with
      | .And, false | .Or, true => K (.val v σ)
      | _, _ => wpBools ev op r m σ K))

noncomputable def wpCmps (ev : Ev) : List CmpOp → List Expr → V → Loc → Store → (OutE → Prop) → (Bool → Store → Prop) → Prop
  | [op], [e], a, m, σ, K, f => behindInMarks op e = false ∧ ev e m σ (thenE K fun b σ => cmpW op a b σ fun r => f r σ)
  | op :: op' :: ops, e :: e' :: es, a, m, σ, K, f => ev e m σ (thenE K fun b σ => cmpW op a b σ fun r => if r then wpCmps ev (op' :: ops) (e' :: es) b m σ K f else f false σ)
  | _, _, _, _, _, _, _ => False

noncomputable def wpAll (tv : Tv) (op : BoolOp) : List Expr → Loc → Store → (OutE → Prop) → (Bool → Store → Prop) → Prop
  | [], m, σ, K, f => f (op == .And) σ
  | e :: r, m, σ, K, f => tv e m σ K fun b σ => (match op, b with
      | .And, false => f false σ
      | .Or, true => f true σ
      | _, _ => wpAll tv op r m σ K f)

mutual
noncomputable def wpE (Γ : Sig) : Nat → Kinds → Ev
  | 0, _, _, _, _, _ => False
  | n + 1, sc, e, m, σ, K => (match e with
    | .Constant c _ _ => constW c σ K
    | .Name x _ => nameW Γ sc x m σ K
    | .BinOp l op r _ => wpE Γ n sc l m σ (thenE K fun a σ => wpE Γ n sc r m σ (thenE K fun b σ => binW op a b σ K))
    | .UnaryOp op x _ => wpE Γ n sc x m σ (thenE K fun a σ => unW op a σ K)
    | .BoolOp op vs _ => wpBools (wpE Γ n sc) op vs m σ K
    | .Compare l ops rs _ => wpE Γ n sc l m σ (thenE K fun a σ => wpCmps (wpE Γ n sc) ops rs a m σ K fun r σ => K (.val (.d (.bool r)) σ))
    | .List es _ => es.all noStar = true ∧ wpEs (wpE Γ n sc) es m σ K fun vs σ => vs.length ≤ 1000000 ∧ K (.val (.ref σ.length) (σ ++ [.lst vs]))
    | .Tuple es _ _ => es.all noStar = true ∧ wpEs (wpE Γ n sc) es m σ K fun vs σ => ∃ ds, vs = ds.map V.d ∧ ds.length ≤ 1000000 ∧ K (.val (.d (.tuple ds)) σ)
    | .Subscript a i _ => noSlice i = true ∧ wpE Γ n sc a m σ (thenE K fun o σ => wpE Γ n sc i m σ (thenE K fun j σ => itemW o j σ K))
    | .Call f args kws p => (match f, kws with
      | .Name x _, [] => sc x = some .globalImplicit ∧ Γ.const x = none ∧ ∃ T, Γ.fn x = some T ∧ args.all noStar = true ∧ wpEs (wpE Γ n sc) args m σ K fun vs σ => T vs σ K
      | _, _ => False)
    | .Dict ks vs _ => ks = [] ∧ vs = [] ∧ K (.val (.ref σ.length) (σ ++ [.dct]))
    | _ => False)
noncomputable def wpT (Γ : Sig) : Nat → Kinds → Tv
  | 0, _, _, _, _, _, _ => False
  | n + 1, sc, e, m, σ, K, f => (match e with
    | .UnaryOp .Not x _ => wpT Γ n sc x m σ K fun b σ => f (!b) σ
    | .BoolOp op vs _ => wpAll (wpT Γ n sc) op vs m σ K f
    | .IfExp _ _ _ _ => False
    | .Compare l ops rs _ => wpE Γ n sc l m σ (thenE K fun a σ => wpCmps (wpE Γ n sc) ops rs a m σ K f)
    | e => wpE Γ n sc e m σ (thenE K fun v σ => ∃ b, truthW v = some b ∧ f b σ))
end

noncomputable def liftS (K : OutS → Prop) (m : Loc) : OutE → Prop
  | .val _ _ => False
  | .exn c σ => K (.exn c m σ)
noncomputable def loopS (K : OutS → Prop) (J : Loc → Store → Prop) : OutS → Prop
  | .next m σ => J m σ
  | .ret v σ => K (.ret v σ)
  | .exn c m σ => K (.exn c m σ)
noncomputable abbrev Sv := Stmt → Loc → Store → (OutS → Prop) → Prop
noncomputable def wpSs (sv : Sv) : List Stmt → Loc → Store → (OutS → Prop) → Prop
  | [], m, σ, K => K (.next m σ)
  | s :: r, m, σ, K => sv s m σ (loopS K fun m σ => wpSs sv r m σ K)

noncomputable def noComp : Expr → Bool
  | .ListComp _ _ _ _ => false
  | .SetComp _ _ _ _ => false
  | .DictComp _ _ _ _ _ => false
  | _ => true
noncomputable def bindable (sc : Kinds) (x : Str) : Prop := sc x = some .local ∨ sc x = some .cell

noncomputable def drop (m : Loc) (x : Str) : Loc := fun y => if y = x then none else m y

/-- behind a handler its name goes -/
noncomputable def asK (x : Str) (K : OutS → Prop) : OutS → Prop
  | .next m σ => K (.next (drop m x) σ)
  | .ret v σ => K (.ret v σ)
  | .exn _ _ _ => False
noncomputable def tryK (K : OutS → Prop) (H : Str → Loc → Store → Prop) : OutS → Prop
  | .next m σ => K (.next m σ)
  | .ret v σ => K (.ret v σ)
  | .exn c m σ => H c m σ

noncomputable def wpS (Γ : Sig) : Nat → Kinds → Sv
  | 0, _, _, _, _, _ => False
  | n + 1, sc, s, m, σ, K => (match s with
    | .Pass _ => K (.next m σ)
    | .Return v _ => (match v with
      | some e => wpE Γ n sc e m σ (thenE (liftS K m) fun v σ => K (.ret v σ))
      | none => K (.ret (.d .none) σ))
    | .Assign ts v _ => (match ts with
      | [.Name x _] => bindable sc x ∧ wpE Γ n sc v m σ (thenE (liftS K m) fun v σ => K (.next (upd m x v) σ))
      | _ => False)
    | .If t b e _ => wpT Γ n sc t m σ (liftS K m) fun c σ => (c = true → wpSs (wpS Γ n sc) b m σ K) ∧ (c = false → wpSs (wpS Γ n sc) e m σ K)
    | .Raise e cause _ => (match e, cause with
      | some (.Call (.Name c _) [.Constant (.str _) _ _] [] _), none => sc c = some .globalImplicit ∧ Γ.calm = true ∧ Γ.exc c = true ∧ K (.exn c m σ)
      | _, _ => False)
    | .Try body hs orelse fin _ => (match hs, orelse, fin with
      | [.ExceptHandler (some (.Name D _)) (some x) (b₀ :: hb) _], [], [] => (sc x = some .local ∧ sc D = some .globalImplicit ∧ Γ.exc D = true ∧ Γ.calm = true) ∧
          wpSs (wpS Γ n sc) body m σ (tryK K fun c m σ => (Γ.exc c = true ∧ kinB c D = true) ∧ wpSs (wpS Γ.hand n sc) (b₀ :: hb) (upd m x (.exc c)) σ (asK x K))
      | _, _, _ => False)
    | _ => False)

end Mine

set_option Elab.async false
set_option autoImplicit false
set_option linter.unusedVariables false
namespace Mine
open PySem PySem.Spec PySem.Calls PyProof.Rows

section
variable {X : Cx} {n : Nat} {ρ : Nat → Addr} {h : Heap} {v : Value}
theorem Has.int_inv {i : Int} (x : Has X n ρ h (.d (.int i)) v) : ∃ t, v = .int i t := by
  cases x with | d r => cases r; exact ⟨_, rfl⟩
theorem Has.str_inv {i : Str} (x : Has X n ρ h (.d (.str i)) v) : ∃ t, v = .str i t := by
  cases x with | d r => cases r; exact ⟨_, rfl⟩
theorem Has.bool_inv {i : Bool} (x : Has X n ρ h (.d (.bool i)) v) : v = .bool i := by
  cases x with | d r => cases r; rfl
theorem Has.none_inv (x : Has X n ρ h (.d .none) v) : v = .none := by
  cases x with | d r => cases r; rfl
theorem Has.ref_inv {i : Nat} (x : Has X n ρ h (.ref i) v) : i < n ∧ v = .ref (ρ i) := by
  cases x with | ref hi => exact ⟨hi, rfl⟩
theorem Has.d_inv {x : PyData} (y : Has X n ρ h (.d x) v) : Reads h v x [] := by
  cases y with | d r => exact r
theorem Has.glob_inv {x : Str} (y : Has X n ρ h (.glob x) v) : X.val x = some v := by
  cases y with | glob r => exact r
theorem Has.ofInt (i : Int) (t : Tok) : Has X n ρ h (.d (.int i)) (.int i t) := .d (.int i t)
theorem Has.ofBool (b : Bool) : Has X n ρ h (.d (.bool b)) (.bool b) := .d (.bool b)
theorem Has.ofStr (x : Str) (t : Tok) : Has X n ρ h (.d (.str x)) (.str x t) := .d (.str x t)
theorem Has.ofNone : Has X n ρ h (.d .none) .none := .d .none
end

section
variable {X : Cx} {σ : Store} {ρ : Nat → Addr} {h : Heap}

/-- a new list on the heap and in the store -/
theorem Rep.newCell (R : Rep X ρ σ h) {cc : Cell} {oo : Obj} {items : List Value} (hsh : cc.Shape oo items) (hv : HasAll X σ.length ρ h cc.items items) :
    let ρ' := fun i => if i = σ.length then h.objs.size else ρ i
    Rep X ρ' (σ ++ [cc]) (h.push oo) ∧ Go Nowhere σ ρ h (σ ++ [cc]) ρ' (h.push oo) := by
  intro ρ'
  have hρ : ∀ i, i < σ.length → ρ' i = ρ i := fun i hi => if_neg (Nat.ne_of_lt hi)
  have hk : ∀ b o, h.get? b = some o → (h.push oo).get? b = some o := fun b o e => Heap.get?_push_of_some _ e
  have g : Go Nowhere σ ρ h (σ ++ [cc]) ρ' (h.push oo) :=
    ⟨by rw [Heap.size_push]; exact Nat.le_succ _, fun b o e _ _ => ⟨o.slots, hk b o e, fun _ => rfl⟩, fun b o es n e d => ⟨o, es, n, hk b o e, d⟩, by simp, hρ, fun i h1 h2 => by
      simp only [List.length_append, List.length_cons, List.length_nil] at h2
      have : i = σ.length := by omega
      subst this
      show h.objs.size ≤ (if σ.length = σ.length then h.objs.size else _)
      rw [if_pos rfl]; exact Nat.le_refl _⟩
  refine ⟨⟨fun b o e => hk b o (R.base b o e), ?_, ?_, ?_⟩, g⟩
  · intro i c hc
    by_cases hi : i < σ.length
    · rw [List.getElem?_append_left hi] at hc
      obtain ⟨oc, its, hp, sh, ha⟩ := R.cell i c hc
      rw [hρ i hi]
      exact ⟨oc, its, hk _ _ hp, sh, ha.go R g .nowhere⟩
    · have hi' : i = σ.length := by
        have := (List.getElem?_eq_some_iff.mp hc).1
        simp at this; omega
      subst hi'
      simp at hc; subst hc
      show CellAt X _ ρ' _ (if σ.length = σ.length then h.objs.size else _) _
      rw [if_pos rfl]
      exact ⟨oo, items, Heap.get?_push_size _ (by obtain ⟨c1, c2, c3, c4⟩ := oo; rcases hsh.is with ⟨_, _, _, q⟩ | ⟨_, _, _, q⟩ <;> (cases q; rfl)), hsh, hv.go R g .nowhere⟩
  · intro i c hc ho
    by_cases hi : i < σ.length
    · rw [List.getElem?_append_left hi] at hc; rw [hρ i hi]; exact R.own i c hc ho
    · have hi' : i = σ.length := by
        have := (List.getElem?_eq_some_iff.mp hc).1
        simp at this; omega
      subst hi'
      show X.B.get? (if σ.length = σ.length then h.objs.size else _) = none
      rw [if_pos rfl]
      cases e : X.B.get? h.objs.size with
      | none => rfl
      | some o => exact absurd (Heap.lt_size (R.base _ _ e)) (Nat.lt_irrefl _)
  · intro i j hi hj e
    simp only [List.length_append, List.length_cons, List.length_nil] at hi hj
    have lt : ∀ i, i < σ.length → ρ i < h.objs.size := fun i hi => by
      obtain ⟨_, _, hp, _, _⟩ := R.cell i _ (List.getElem?_eq_getElem hi)
      exact Heap.lt_size hp
    by_cases h1 : i = σ.length <;> by_cases h2 : j = σ.length
    · omega
    · have e' : h.objs.size = ρ j := by simpa [ρ', h1, h2] using e
      have hh := lt j (by omega)
      rw [← e'] at hh; exact absurd hh (Nat.lt_irrefl _)
    · have e' : ρ i = h.objs.size := by simpa [ρ', h1, h2] using e
      have hh := lt i (by omega)
      rw [e'] at hh; exact absurd hh (Nat.lt_irrefl _)
    · exact R.inj i j (by omega) (by omega) (by simpa [ρ', h1, h2] using e)

/-- a new list on the heap and in the store -/
theorem Rep.newList (R : Rep X ρ σ h) {vs : List V} {items : List Value} {n : Nat} (hv : HasAll X σ.length ρ h vs items) :
    let ρ' := fun i => if i = σ.length then h.objs.size else ρ i
    Rep X ρ' (σ ++ [.lst vs]) (h.push { cls := .type "list", data := .seq items.toArray n }) ∧ Go Nowhere σ ρ h (σ ++ [.lst vs]) ρ' (h.push { cls := .type "list", data := .seq items.toArray n }) :=
  R.newCell (cc := .lst vs) ⟨n, rfl⟩ hv

theorem Rep.list {i : Nat} {xs : List V} (R : Rep X ρ σ h) (e : itemsAt σ i = some xs) : i < σ.length ∧ ∃ items : List Value, (∃ n, h.get? (ρ i) = some { cls := .type "list", data := .seq items.toArray n }) ∧ HasAll X σ.length ρ h xs items := by
  unfold itemsAt at e
  obtain ⟨c, hc, e⟩ := Option.bind_eq_some_iff.mp e
  obtain ⟨oc, its, hp, sh, ha⟩ := R.cell i c hc
  cases c with
  | dct => cases e
  | lst ys => cases e; obtain ⟨n, rfl⟩ := sh; exact ⟨(List.getElem?_eq_some_iff.mp hc).1, its, ⟨n, hp⟩, ha⟩
  | rol ys => cases e; obtain ⟨n, rfl⟩ := sh; exact ⟨(List.getElem?_eq_some_iff.mp hc).1, its, ⟨n, hp⟩, ha⟩
end

section
variable {X : Cx} {σ : Store} {ρ : Nat → Addr} {h h' : Heap}
end

section
variable {X : Cx} {k : Nat} {A : Around} {env : Env} {σ : Store} {ρ : Nat → Addr} {s : Shared} {K : OutE → Prop} {Q E : Value → Shared → Prop}

theorem OkE.same (ok : OkE X σ ρ s K Q) (R : Rep X ρ σ s.heap) {v : V} {a : Value} (hK : K (.val v σ)) (hv : Has X σ.length ρ s.heap v a) (tk : Nat) : Q a { s with toks := tk } :=
  ok v σ ρ a s.heap tk hK R (.refl ..) hv

theorem bin_sound {op : Operator} {a b : V} {va vb : Value} (hb : binW op a b σ K) (R : Rep X ρ σ s.heap) (ha : Has X σ.length ρ s.heap a va) (hb' : Has X σ.length ρ s.heap b vb)
    (ok : OkE X σ ρ s K Q) : wpAny (model X.prog X.w) A (binaryOp op va vb) Q E s := by
  unfold binW at hb
  split at hb
  · obtain ⟨t, rfl⟩ := ha.int_inv; obtain ⟨u, rfl⟩ := hb'.int_inv
    exact PyProof.Rows.add_int (ok.same R hb (.ofInt ..) _)
  · obtain ⟨t, rfl⟩ := ha.int_inv; obtain ⟨u, rfl⟩ := hb'.int_inv
    exact PyProof.Rows.sub_int (ok.same R hb (.ofInt ..) _)
  · obtain ⟨t, rfl⟩ := ha.int_inv; obtain ⟨u, rfl⟩ := hb'.int_inv
    exact PyProof.Rows.floordiv_int (by have := hb.1.1; omega) (ok.same R hb.2 (.ofInt ..) _) (.inl (PyProof.noPylong_small (by have := hb.1; omega)))
  · obtain ⟨t, rfl⟩ := ha.int_inv; obtain ⟨u, rfl⟩ := hb'.int_inv
    exact PyProof.Rows.mod_int' hb.1 (ok.same R hb.2 (.ofInt ..) _)
  · obtain ⟨t, rfl⟩ := ha.str_inv; obtain ⟨u, rfl⟩ := hb'.str_inv
    exact PyProof.Rows.add_str (fun t' tk => ok.same R hb.2 (.ofStr ..) _) hb.1
  · exact hb.elim

theorem un_sound {op : UnaryOp} {a : V} {va : Value} (hb : unW op a σ K) (R : Rep X ρ σ s.heap) (ha : Has X σ.length ρ s.heap a va)
    (ok : OkE X σ ρ s K Q) : wpAny (model X.prog X.w) A (unaryOp op va) Q E s := by
  unfold unW at hb
  split at hb
  · obtain ⟨t, rfl⟩ := ha.int_inv
    exact PyProof.Rows.neg_int (ok.same R hb (.ofInt ..) _)
  · obtain ⟨b, h1, h2⟩ := hb
    unfold truthW at h1
    split at h1
    · cases h1
      cases ha.bool_inv
      exact not_of (wpAny_truthy_bool (ok.same R h2 (.ofBool _) s.toks))
    · cases h1
  · exact hb.elim

theorem truth_sound {a : V} {va : Value} {b : Bool} {Q : Bool → Shared → Prop} (hb : truthW a = some b) (ha : Has X σ.length ρ s.heap a va) (h : Q b s) : wpAny (model X.prog X.w) A (truthy va) Q E s := by
  unfold truthW at hb
  split at hb
  · cases hb; cases ha.bool_inv; exact wpAny_truthy_bool h
  · cases hb

mutual
theorem readsAll_of {X : Cx} {σ : Store} {ρ : Nat → Addr} {h : Heap} (R : Rep X ρ σ h) (n : Nat) : ∀ (vs : List V) (as : List Value) (xs : List PyData), HasAll X σ.length ρ h vs as → vs.mapM (dataOf σ n) = some xs → ∃ bs, ReadsAll h as xs bs := by
  intro vs as xs hv
  induction hv generalizing xs with
  | nil => intro e; simp at e; subst e; exact ⟨_, .nil⟩
  | cons h1 h2 ih =>
    intro e
    simp only [List.mapM_cons, Option.bind_eq_bind, Option.bind_eq_some_iff] at e
    obtain ⟨y, e1, ys, e2, e3⟩ := e
    cases e3
    obtain ⟨bs1, r1⟩ := reads_of R n _ _ _ h1 e1
    obtain ⟨bs2, r2⟩ := ih _ e2
    exact ⟨_, .cons r1 r2⟩
termination_by (n, 1)
theorem reads_of {X : Cx} {σ : Store} {ρ : Nat → Addr} {h : Heap} (R : Rep X ρ σ h) (n : Nat) (v : V) (a : Value) (x : PyData) (hv : Has X σ.length ρ h v a) (e : dataOf σ n v = some x) : ∃ bs, Reads h a x bs := by
  unfold dataOf at e
  split at e
  · cases e; exact ⟨_, hv.d_inv⟩
  · rename_i n i
    obtain ⟨xs, e1, e2⟩ := Option.bind_eq_some_iff.mp e
    obtain ⟨ds, e3, e4⟩ := Option.map_eq_some_iff.mp e2
    subst e4
    obtain ⟨_, rfl⟩ := hv.ref_inv
    obtain ⟨_, its, ⟨k, ho⟩, ha⟩ := R.list e1
    obtain ⟨bs, r⟩ := readsAll_of R n xs its ds ha e3
    exact ⟨_, .list ho rfl rfl (by simpa using r)⟩
  · cases e
termination_by (n, 0)
end

theorem cmp_sound {op : CmpOp} {a b : V} {va vb : Value} {f : Bool → Prop} (hb : cmpW op a b σ f) (ar : Ar X k A env s.heap) (R : Rep X ρ σ s.heap) (ha : Has X σ.length ρ s.heap a va) (hb' : Has X σ.length ρ s.heap b vb)
    (h : ∀ r, f r → Q (.bool r) s) : wpAny (model X.prog X.w) A (compareOp op va vb) Q E s := by
  have hu : A.units + 64 < cLine := by have := ar.units; omega
  unfold cmpW at hb
  split at hb
  · obtain ⟨t, rfl⟩ := ha.int_inv; obtain ⟨u, rfl⟩ := hb'.int_inv
    exact PyProof.Rows.lt_int (h _ hb)
  · obtain ⟨t, rfl⟩ := ha.int_inv; obtain ⟨u, rfl⟩ := hb'.int_inv
    exact PyProof.Rows.le_int (h _ hb)
  · obtain ⟨t, rfl⟩ := ha.int_inv; obtain ⟨u, rfl⟩ := hb'.int_inv
    exact PyProof.Rows.ge_int (h _ hb)
  · obtain ⟨x, y, h1, h2, h3, h4, h5⟩ := hb
    obtain ⟨as, ra⟩ := reads_of R _ _ _ _ ha h1
    obtain ⟨bs, rb⟩ := reads_of R _ _ _ _ hb' h2
    exact eq_dataH ra rb h3 h4 hu (h _ h5)
  · obtain ⟨h1, h2, h3⟩ := hb
    refine SeqAt.notIn_tuple_reads hb'.d_inv ha.d_inv h2 (SeqAt.canLay_of_shaped h1) ?_ (h _ h3)
    have q1 := SeqAt.depth_of_shaped h1
    have q2 := ar.units
    omega
  · obtain ⟨x, y, h1, h2, h3, h4, h5⟩ := hb
    obtain ⟨as, ra⟩ := reads_of R _ _ _ _ ha h1
    obtain ⟨bs, rb⟩ := reads_of R _ _ _ _ hb' h2
    exact ne_dataH ra rb h3 h4 hu (h _ h5)
  · exact hb.elim

theorem subscripted_plain {slice : Expr} (hs : ∀ a b c p, slice ≠ .Slice a b c p) (o i : Value) : subscripted slice false o i = operate [o, i] (getItem o i) := by
  unfold subscripted
  split
  · exact absurd rfl (hs _ _ _ _)
  · rename_i h; cases h
  · rfl

theorem readsAll_get {h : Heap} : ∀ {vs : List Value} {xs : List PyData} {as : List Addr}, ReadsAll h vs xs as → as = [] → ∀ {j : Nat} {x : PyData}, xs[j]? = some x → ∃ v, vs[j]? = some v ∧ Reads h v x []
  | _, _, _, .nil, _, j, x, e => by simp at e
  | _, _, _, .cons h1 h2, ea, j, x, e => by
    obtain ⟨e1, e2⟩ := List.append_eq_nil_iff.mp ea
    cases j with
    | zero => simp at e; subst e; subst e1; exact ⟨_, rfl, h1⟩
    | succ j => simpa using readsAll_get h2 e2 (by simpa using e)

theorem item_sound {value slice : Expr} {a i : V} {va vi : Value} (hs : ∀ a b c p, slice ≠ .Slice a b c p) (hb : itemW a i σ K) (R : Rep X ρ σ s.heap) (ha : Has X σ.length ρ s.heap a va) (hi : Has X σ.length ρ s.heap i vi)
    (ok : OkE X σ ρ s K Q) : wpAny (model X.prog X.w) A (subscriptTail value slice va vi) Q E s := by
  unfold itemW at hb
  split at hb
  · obtain ⟨xs, v, h1, h2, h3, h4⟩ := hb
    obtain ⟨t, rfl⟩ := hi.int_inv
    obtain ⟨_, rfl⟩ := ha.ref_inv
    obtain ⟨_, its, ⟨n, e⟩, hall⟩ := R.list h1
    obtain ⟨w, hw, hv⟩ := hall.get h3
    have hL : s.heap.IsList (ρ _) its.toArray := ⟨_, e, rfl, n, rfl⟩
    exact tail_any hL.typeIs slot_list_getitem.lookup (wpAny_getItem_list hL h2.1 h2.2 (by simpa using hw) (ok.same R h4 hv s.toks)) (subscripted_plain hs _ _)
  · obtain ⟨x, h2, h3, h4⟩ := hb
    rename_i xs k
    obtain ⟨t, rfl⟩ := hi.int_inv
    have r := ha.d_inv
    cases r with
    | @tuple a o vs n xs as e1 e2 e3 e4 =>
      obtain ⟨w, hw, hr⟩ := readsAll_get e4 rfl h3
      have hT : IsTup s.heap _ _ := ⟨_, e1, e2, _, e3⟩
      have hj : seqIndex? k vs.size = some k.toNat := by
        unfold seqIndex?
        have hlt := (List.getElem?_eq_some_iff.mp hw).1
        simp only [Array.length_toList] at hlt
        have : ¬ k < 0 := by omega
        simp only [this, if_false]
        rw [if_pos]
        simp only [Bool.and_eq_true, decide_eq_true_eq]
        omega
      exact tail_any hT.typeIs slot_tuple_getitem.lookup (PyProof.Rows.getItem_tuple hT (by omega) h2.2 hj (by simpa using hw) (ok.same R h4 (.d hr) s.toks)) (subscripted_plain hs _ _)
  · exact hb.elim
end
end Mine

set_option Elab.async false
set_option autoImplicit false
set_option linter.unusedVariables false
namespace Mine
open PySem PySem.Spec PySem.Calls PyProof.Rows

/-- a callee that the caller's frame keeps no more of -/
noncomputable def Kp (X : Cx) (f : Value) : Prop := ∃ k, (k = Keeper.frame ∨ k = Keeper.machine ∨ k = Keeper.boundFrame) ∧
  ∀ (A : Around) (Q : Keeper → Shared → Prop) (E : Value → Shared → Prop) (s : Shared), (∀ b o, X.B.get? b = some o → s.heap.get? b = some o) → Q k s → wpAny (model X.prog X.w) A (keeperOf f) Q E s

noncomputable def ValidF (X : Cx) (k : Nat) (x : Str) (T : Contract) : Prop :=
  ∃ f, X.val x = some f ∧ Kp X f ∧ ∀ vs σ K, T vs σ K → ∀ (A : Around) (s : Shared) (ρ : Nat → Addr) (vals : List Value) (Q E : Value → Shared → Prop),
    ArC X k A s.heap → Rep X ρ σ s.heap → HasAll X σ.length ρ s.heap vs vals → OkE X σ ρ s K Q → ErE X none σ ρ s K E → wpAny (model X.prog X.w) A (call f vals) Q E s

/-- what the top's heap says, and each heap above it -/
noncomputable def Sees {α : Type} (X : Cx) (t : Sem α) (v : α) : Prop := ∀ (M : Model) (A : Around) (Q : α → Shared → Prop) (E : Value → Shared → Prop) (s : Shared), (∀ b o, X.B.get? b = some o → s.heap.get? b = some o) → Q v s → wpAny M A t Q E s

noncomputable def bmV : List Value := [.type "ValueError", .type "Exception", .type "BaseException", .type "object"]
noncomputable def ExcOk (X : Cx) (c : Str) : Prop := ∃ C, OwnCls c C bmV "ValueError.__new__" X.mg X.B
noncomputable def SubOk (X : Cx) (c D : Str) : Prop := ∃ C Dc, X.mg c = some (.ref C) ∧ X.mg D = some (.ref Dc) ∧ Sees X (isSubtype (.ref C) (.ref Dc)) (kinB c D)

structure SigOk (X : Cx) (k : Nat) (Γ : Sig) : Prop where
  exc : ∀ c, Γ.exc c = true → ExcOk X c
  kin : ∀ c D, Γ.exc c = true → Γ.exc D = true → SubOk X c D
  calm : Γ.calm = true → 100 ≤ k
  hand : ∀ x T, Γ.fnH x = some T → ValidF X 99 x T
  fn : ∀ x T, Γ.fn x = some T → ValidF X k x T
  const : ∀ x d, Γ.const x = some d → ∃ v, X.val x = some v ∧ ∀ h, Reads h v d []
  knows : ∀ x, Γ.knows x = true → ∃ v, X.val x = some v

theorem SigOk.handler {X : Cx} {k : Nat} {Γ : Sig} (ok : SigOk X k Γ) : SigOk X 99 Γ.hand where
  exc := ok.exc
  kin := ok.kin
  calm := fun h => by cases h
  hand := ok.hand
  fn := ok.hand
  const := ok.const
  knows := ok.knows

theorem Kp.func {X : Cx} {a : Addr} {o : Obj} {fd : FuncData} (ho : X.B.get? a = some o) (hd : o.data = .func fd) : Kp X (.ref a) :=
  ⟨.frame, .inl rfl, fun A Q E s hk hQ => by
    unfold keeperOf
    refine wpAny_bind (wpAny_load (hk _ _ ho) ?_)
    rw [hd]; exact wpAny_pure hQ⟩
theorem Kp.builtin {X : Cx} {id : String} : Kp X (.builtin id) := ⟨.machine, .inr (.inl rfl), fun A Q E s hk hQ => wpAny_pure hQ⟩
theorem Kp.type {X : Cx} {id : String} : Kp X (.type id) := ⟨.machine, .inr (.inl rfl), fun A Q E s hk hQ => wpAny_pure hQ⟩

section
variable {X : Cx} {k : Nat} {Γ : Sig} {env : Env} {sc : Kinds} {m : Loc} {σ : Store} {K : OutE → Prop} {A : Around} {s : Shared} {ρ : Nat → Addr} {Q E : Value → Shared → Prop}

theorem callWith_gen {pos : Pos} {f : Value} {first : List Value} {args : List (Bool × Sem Value)} (hplain : args.any (·.1) = false) (hf : Kp X f)
    (h : wpAny (model X.prog X.w) A (evalArgs f true args []) (fun a s₁ => (∀ b o, X.B.get? b = some o → s₁.heap.get? b = some o) ∧ wpAny (model X.prog X.w) A (call f (first ++ a.pos) a.kw) Q E s₁) E s) :
    wpAny (model X.prog X.w) A (callWith pos f first args []) Q E s := by
  unfold callWith
  refine wpAny_bind (wpAny_holding (wpAny_mono h (fun a s₁ h₁ => wpAny_bind (wpAny_standAt ?_)) fun _ _ x => x))
  obtain ⟨k, hk', L⟩ := hf
  simp only [hplain, List.any_nil, Bool.or_false]
  refine wpAny_bind (L _ _ _ _ h₁.1 ?_)
  have tail : ∀ {t : Sem Value}, wpAny (model X.prog X.w) A t Q E s₁ → wpAny (model X.prog X.w) A (t >>= fun r => holding [r] point >>= fun _ => pure r) Q E s₁ :=
    fun ht => wpAny_bind (wpAny_mono ht (fun r s₂ hr => wpAny_bind (wpAny_holding (wpAny_point (wpAny_pure hr)))) fun _ _ x => x)
  have marked (mk : Value) : wpAny (model X.prog X.w) A (callMarked mk f (first ++ a.pos) a.kw) Q E s₁ := by unfold callMarked; exact Calls.wpAny_keep h₁.2
  rcases hk' with rfl | rfl | rfl <;> dsimp only <;> first | exact tail h₁.2 | (split <;> first | exact tail h₁.2 | exact tail (marked _))

theorem loadGlobal_sound {x : Str} {v : Value} (cx : CxOk X) (R : Rep X ρ σ s.heap) (F : Frm X env sc m σ.length ρ s.heap) (hv : X.val x = some v) (h : Q v s) : wpAny (model X.prog X.w) A (loadGlobal env x) Q E s := by
  unfold loadGlobal
  rw [F.glob, F.bi]
  refine wpAny_bind (wpAny_nsGet (cx.g.keeps R.base) ?_)
  unfold Cx.val at hv
  cases hg : X.mg x with
  | some u => rw [hg] at hv; cases hv; exact wpAny_pure h
  | none =>
    rw [hg] at hv
    refine wpAny_bind (wpAny_nsGet (cx.b.keeps R.base) ?_)
    have hv' : X.mb x = some v := hv
    rw [hv']; exact wpAny_pure h

theorem KindsOk.notDebug (hk : KindsOk sc env) {x : Str} {kd : NameKind} (h : sc x = some kd) : (x == ("__debug__" : Str)) = false := by
  cases hb : x == ("__debug__" : Str) with
  | false => rfl
  | true => rw [beq_iff_eq.mp hb, hk.debug] at h; cases h
theorem KindsOk.notClassdict (hk : KindsOk sc env) {x : Str} {kd : NameKind} (h : sc x = some kd) : (x == ("__classdict__" : Str)) = false := by
  cases hb : x == ("__classdict__" : Str) with
  | false => rfl
  | true => rw [beq_iff_eq.mp hb, hk.classdict] at h; cases h

theorem glob_sound {x : Str} {pos : Pos} {v : Value} (cx : CxOk X) (R : Rep X ρ σ s.heap) (F : Frm X env sc m σ.length ρ s.heap) (hx : sc x = some .globalImplicit) (hv : X.val x = some v) (h : Q v s) :
    wpAny (model X.prog X.w) A (eval (.Name x pos) env) Q E s :=
  Name_function_global F.kind (F.kinds.glob x hx) (loadGlobal_sound cx R F hv h) (F.kinds.notDebug hx)

theorem name_sound {x : Str} {pos : Pos} (cx : CxOk X) (ok : SigOk X k Γ) (R : Rep X ρ σ s.heap) (F : Frm X env sc m σ.length ρ s.heap) (hw : nameW Γ sc x m σ K) (hQ : OkE X σ ρ s K Q) :
    wpAny (model X.prog X.w) A (eval (.Name x pos) env) Q E s := by
  unfold nameW at hw
  have cellCase : ∀ kd, sc x = some kd → (kd = .cell ∨ kd = .free) → (∃ v, m x = some v ∧ K (.val v σ)) → wpAny (model X.prog X.w) A (eval (.Name x pos) env) Q E s := by
    rintro kd hsc hkd ⟨v, hm, hK⟩
    obtain ⟨c, ov, h1, h2, h3⟩ := F.cells x (by rcases hkd with rfl | rfl <;> simp [hsc])
    obtain ⟨a, rfl, hv⟩ := h3 v hm
    refine wpAny_Name ?_ (F.kinds.notDebug hsc)
    have : env.kindOf x = some .cell ∨ env.kindOf x = some .free := by
      rcases hkd with rfl | rfl
      · exact .inl (F.kinds.cell x hsc)
      · exact F.kinds.free x hsc
    rcases this with h | h
    · exact wpAny_loadName_cell F.kind h h1 h2 (hQ.same R hK hv s.toks)
    · exact wpAny_loadName_free F.kind h h1 h2 (hQ.same R hK hv s.toks) (F.kinds.notClassdict hsc)
  split at hw
  · rename_i hsc
    obtain ⟨v, hm, hK⟩ := hw
    obtain ⟨mm, hn, hl⟩ := F.ns
    obtain ⟨a, h1, h2⟩ := hl x v hsc hm
    exact wpAny_Name (wpAny_loadName_local F.kind (F.kinds.loc x hsc) hn h1 (hQ.same R hK h2 s.toks)) (F.kinds.notDebug hsc)
  · rename_i hsc; exact cellCase _ hsc (.inl rfl) hw
  · rename_i hsc; exact cellCase _ hsc (.inr rfl) hw
  · rename_i hsc
    split at hw
    · rename_i d hd
      obtain ⟨v, h1, h2⟩ := ok.const x d hd
      exact glob_sound cx R F hsc h1 (hQ.same R hw (.d (h2 _)) s.toks)
    · obtain ⟨v, h1⟩ := ok.knows x hw.1
      exact glob_sound cx R F hsc h1 (hQ.same R hw.2 (.glob h1) s.toks)
  · exact hw.elim

theorem const_sound {c : Const} {n : Nat} {pos : Pos} (R : Rep X ρ σ s.heap) (hw : constW c σ K) (hQ : OkE X σ ρ s K Q) : wpAny (model X.prog X.w) A (eval (.Constant c n pos) env) Q E s := by
  unfold constW at hw
  split at hw
  · exact wpAny_pure (hQ.same R hw .ofNone s.toks)
  · exact wpAny_pure (hQ.same R hw (.ofBool _) s.toks)
  · exact wpAny_Constant_int (hQ.same R hw (.ofInt ..) _)
  · exact Calls.Constant_str (hQ.same R hw (.ofStr ..) _)
  · exact hw.elim

theorem starEach_plain {e : Expr} {rest : List Expr} (h : noStar e = true) : starEach (e :: rest) env = (false, eval e env) :: starEach rest env := by
  cases e <;> first | rfl | exact absurd h (by simp [noStar])

noncomputable def ST (X : Cx) (k : Nat) (env : Env) (sc : Kinds) (t : Sem Bool) (m : Loc) (σ : Store) (K : OutE → Prop) (f : Bool → Store → Prop) : Prop :=
  ∀ (A : Around) (s : Shared) (ρ : Nat → Addr) (Q : Bool → Shared → Prop) (E : Value → Shared → Prop), Ar X k A env s.heap → Rep X ρ σ s.heap → Frm X env sc m σ.length ρ s.heap →
    (∀ b σ' ρ' h' tk, f b σ' → Rep X ρ' σ' h' → Go Nowhere σ ρ s.heap σ' ρ' h' → Ar X k A env h' → Frm X env sc m σ'.length ρ' h' → Q b { s with heap := h', toks := tk }) → ErE X env.frame σ ρ s K E → wpAny (model X.prog X.w) A t Q E s

/-- the arguments of a call or a display -/
theorem args_sound {ev : Ev} {pos : Pos} (hev : ∀ e m σ K, ev e m σ K → SE X k env sc (eval e env) m σ K) : ∀ (es : List Expr) (σ : Store) (f : List V → Store → Prop) (s : Shared) (ρ : Nat → Addr) (Q : List Value → Shared → Prop),
    es.all noStar = true → wpEs ev es m σ K f → Ar X k A env s.heap → Rep X ρ σ s.heap → Frm X env sc m σ.length ρ s.heap → ErE X env.frame σ ρ s K E →
    (∀ vs σ' ρ' as h' tk, f vs σ' → Rep X ρ' σ' h' → Go Nowhere σ ρ s.heap σ' ρ' h' → HasAll X σ'.length ρ' h' vs as → Ar X k A env h' → Frm X env sc m σ'.length ρ' h' → Q as { s with heap := h', toks := tk }) →
    wpAny (model X.prog X.w) A (spliced (backTo pos (starEach es env))) Q E s
  | [], σ, f, s, ρ, Q, _, hw, ar, R, F, er, h => wpAny_items_nil (h [] σ ρ [] s.heap s.toks hw R (.refl ..) .nil ar F)
  | e :: r, σ, f, s, ρ, Q, hs, hw, ar, R, F, er, h => by
    unfold wpEs at hw
    rw [List.all_cons, Bool.and_eq_true] at hs
    refine wpAny_items_cons ?_ (starEach_plain hs.1)
    refine SE.andThen (hev _ _ _ _ hw) ar R F er fun v σ₁ ρ₁ a h₁ tk hf R₁ g₁ hv ar₁ F₁ => ?_
    refine args_sound hev r σ₁ _ { s with heap := h₁, toks := tk } ρ₁ _ hs.2 hf ar₁ R₁ F₁ (er.after g₁) fun vs σ₂ ρ₂ as h₂ tk₂ hf₂ R₂ g₂ hvs ar₂ F₂ => ?_
    exact h (v :: vs) σ₂ ρ₂ (a :: as) h₂ tk₂ hf₂ R₂ (g₁.trans g₂) (.cons (hv.go R₁ g₂ .nowhere) hvs) ar₂ F₂

theorem args_noStar {pos : Pos} : ∀ (es : List Expr), es.all noStar = true → (backTo pos (starEach es env)).any (·.1) = false
  | [], hw => rfl
  | e :: r, hw => by
    rw [List.all_cons, Bool.and_eq_true] at hw
    rw [starEach_plain hw.1]
    show (false || (backTo pos (starEach r env)).any (·.1)) = false
    rw [Bool.false_or]
    exact args_noStar r hw.2
end
end Mine

set_option Elab.async false
set_option autoImplicit false
set_option linter.unusedVariables false
namespace Mine
open PySem PySem.Spec PySem.Calls PyProof.Rows

section
variable {X : Cx} {k : Nat} {Γ : Sig} {env : Env} {sc : Kinds} {m : Loc} {σ : Store} {K : OutE → Prop} {A : Around} {s : Shared} {ρ : Nat → Addr} {Q E : Value → Shared → Prop}

theorem evalArgs_gen {M : Model} {f : Value} {args : List (Bool × Sem Value)} {Q : Args → Shared → Prop} (hp : args.any (·.1) = false)
    (h : wpAny M A (spliced args) (fun vs s' => Q ⟨vs, []⟩ s') E s) : wpAny M A (evalArgs f true args []) Q E s := by
  cases args with
  | nil =>
    unfold evalArgs
    show wpAny M A (spliced [] >>= _) Q E s
    refine wpAny_bind (wpAny_mono h (fun vs s' h' => ?_) fun _ _ x => x)
    exact wpAny_holding (wpAny_bind (wpAny_pure (wpAny_bind (wpAny_pure (wpAny_pure h')))))
  | cons a r =>
    obtain ⟨b, x⟩ := a
    have hb : b = false := by
      have : (b || r.any (·.1)) = false := hp
      exact (Bool.or_eq_false_iff.mp this).1
    subst hb
    exact evalArgs_plain h

theorem release_any {M : Model} {vs keep : List Value} {Q : Unit → Shared → Prop} (h : Q () s) : wpAny M A (release vs keep) Q E s := fun Γ p _ => by rw [Sem.wp_release]; exact h

theorem bools_sound {ev : Ev} {op : BoolOp} {pos : Pos} (hev : ∀ e m σ K, ev e m σ K → SE X k env sc (eval e env) m σ K) : ∀ (es : List Expr) (σ : Store) (s : Shared) (ρ : Nat → Addr),
    wpBools ev op es m σ K → Ar X k A env s.heap → Rep X ρ σ s.heap → Frm X env sc m σ.length ρ s.heap → OkE X σ ρ s K Q → ErE X env.frame σ ρ s K E →
    wpAny (model X.prog X.w) A (boolOp pos op (evalEach es env)) Q E s
  | [], σ, s, ρ, hw, ar, R, F, ok, er => hw.elim
  | [e], σ, s, ρ, hw, ar, R, F, ok, er => hev _ _ _ _ hw A s ρ Q E ar R F ok er
  | e :: e' :: r, σ, s, ρ, hw, ar, R, F, ok, er => by
    unfold wpBools at hw
    show wpAny _ A (eval e env >>= fun v => standAt pos >>= fun _ => holding [v] (truthy v) >>= fun t => _) Q E s
    refine wpAny_bind (SE.andThen (hev _ _ _ _ hw) ar R F er fun v σ₁ ρ₁ a h₁ tk hf R₁ g₁ hv ar₁ F₁ => ?_)
    obtain ⟨b, ht, hf⟩ := hf
    refine wpAny_bind (wpAny_standAt (wpAny_bind (wpAny_holding (truth_sound ht hv ?_))))
    have go : wpBools ev op (e' :: r) m σ₁ K → wpAny (model X.prog X.w) A (boolOp pos op (evalEach (e' :: r) env)) Q E { s with heap := h₁, toks := tk } :=
      fun hw' => bools_sound hev (e' :: r) σ₁ { s with heap := h₁, toks := tk } ρ₁ hw' ar₁ R₁ F₁ (ok.after g₁) (er.after g₁)
    cases op <;> cases b <;> dsimp only at hf ⊢
    · exact wpAny_pure (ok _ _ _ _ _ _ hf R₁ g₁ hv)
    · exact go hf
    · exact go hf
    · exact wpAny_pure (ok _ _ _ _ _ _ hf R₁ g₁ hv)

theorem cmps_sound {ev : Ev} {pos : Pos} {f : Bool → Store → Prop} {Q : Value → Shared → Prop} (hev : ∀ e m σ K, ev e m σ K → SE X k env sc (eval e env) m σ K) : ∀ (ops : List CmpOp) (es : List Expr) (a : V) (va : Value) (σ : Store) (s : Shared) (ρ : Nat → Addr),
    wpCmps ev ops es a m σ K f → Ar X k A env s.heap → Rep X ρ σ s.heap → Frm X env sc m σ.length ρ s.heap → Has X σ.length ρ s.heap a va → ErE X env.frame σ ρ s K E →
    (∀ r σ' ρ' h' tk, f r σ' → Rep X ρ' σ' h' → Go Nowhere σ ρ s.heap σ' ρ' h' → Ar X k A env h' → Frm X env sc m σ'.length ρ' h' → Q (.bool r) { s with heap := h', toks := tk }) →
    wpAny (model X.prog X.w) A (compareChain pos va ops (markedEach ops es (evalEach es env))) Q E s
  | [op], [e], a, va, σ, s, ρ, hw, ar, R, F, hv, er, h => by
    unfold wpCmps at hw
    show wpAny _ A (holding [va] (markedBehindIn op e (eval e env)) >>= fun rv => standAt pos >>= fun _ => operate [va, rv] (compareOp op va rv)) Q E s
    rw [markedBehindIn_of_false hw.1]
    refine wpAny_bind (wpAny_holding (SE.andThen (hev _ _ _ _ hw.2) ar R F er fun b σ₁ ρ₁ vb h₁ tk hf R₁ g₁ hb ar₁ F₁ => ?_))
    exact wpAny_bind (wpAny_standAt (wpAny_operating (cmp_sound hf ar₁ R₁ (hv.go R g₁ .nowhere) hb fun r hr => h r σ₁ ρ₁ h₁ tk hr R₁ g₁ ar₁ F₁)))
  | op :: op' :: ops, e :: e' :: es, a, va, σ, s, ρ, hw, ar, R, F, hv, er, h => by
    unfold wpCmps at hw
    show wpAny _ A (holding [va] (eval e env) >>= fun rv => standAt pos >>= fun _ => holding [va, rv] (compareOp op va rv) >>= fun c => release [va, rv] [c] >>= fun _ => holding [c, rv] (truthy c) >>= fun t =>
      if t = true then compareChain pos rv (op' :: ops) (markedEach (op' :: ops) (e' :: es) (evalEach (e' :: es) env)) else pure c) Q E s
    refine wpAny_bind (wpAny_holding (SE.andThen (hev _ _ _ _ hw) ar R F er fun b σ₁ ρ₁ vb h₁ tk hf R₁ g₁ hb ar₁ F₁ => ?_))
    refine wpAny_bind (wpAny_standAt (wpAny_bind (wpAny_holding (cmp_sound hf ar₁ R₁ (hv.go R g₁ .nowhere) hb fun r hr => ?_))))
    refine wpAny_bind (release_any (wpAny_bind (wpAny_holding (wpAny_truthy_bool ?_))))
    cases r with
    | false => exact wpAny_pure (h false σ₁ ρ₁ h₁ tk hr R₁ g₁ ar₁ F₁)
    | true =>
      refine cmps_sound hev (op' :: ops) (e' :: es) b vb σ₁ { s with heap := h₁, toks := tk } ρ₁ hr ar₁ R₁ F₁ hb (er.after g₁) fun r σ₂ ρ₂ h₂ tk₂ hf₂ R₂ g₂ ar₂ F₂ => ?_
      exact h r σ₂ ρ₂ h₂ tk₂ hf₂ R₂ (g₁.trans g₂) ar₂ F₂
  | [], _, _, _, _, _, _, hw, _, _, _, _, _, _ => by unfold wpCmps at hw; exact hw.elim
  | [_], [], _, _, _, _, _, hw, _, _, _, _, _, _ => by unfold wpCmps at hw; exact hw.elim
  | _ :: _ :: _, [], _, _, _, _, _, hw, _, _, _, _, _, _ => by unfold wpCmps at hw; exact hw.elim
  | [_], _ :: _ :: _, _, _, _, s, ρ, hw, ar, R, F, hv, er, h => by
    unfold wpCmps at hw; exact hw.elim
  | _ :: _ :: _, [_], _, _, _, _, _, hw, _, _, _, _, _, _ => by
    unfold wpCmps at hw; exact hw.elim
end
end Mine

set_option Elab.async false
set_option autoImplicit false
set_option linter.unusedVariables false
namespace Mine
open PySem PySem.Spec PySem.Calls PyProof.Rows

/-! the heap only grows -/
/-- all stands but what lies at I -/
structure Ext1 (I : Addr) (h h' : Heap) : Prop where
  size : h.objs.size ≤ h'.objs.size
  keep : ∀ b o, b ≠ I → h.get? b = some o → h'.get? b = some o

section
variable {X : Cx} {σ σ' : Store} {ρ ρ' : Nat → Addr} {h h' h'' : Heap} {I : Addr} {k : Nat} {src : V} {W : Addr → Prop}

/-- a new object that is no cell of the store -/
theorem Rep.push (R : Rep X ρ σ h) (o : Obj) : Rep X ρ σ (h.push o) ∧ Go W σ ρ h σ ρ (h.push o) := by
  have hk : ∀ b o', h.get? b = some o' → (h.push o).get? b = some o' := fun b o' e => Heap.get?_push_of_some _ e
  refine ⟨⟨fun b o' e => hk _ _ (R.base b o' e), fun i c hc => ?_, R.own, R.inj⟩, ⟨by rw [Heap.size_push]; exact Nat.le_succ _, fun b o' e _ _ => ⟨o'.slots, hk b o' e, fun _ => rfl⟩, fun b o' es n e d => ⟨o', es, n, hk _ _ e, d⟩, Nat.le_refl _, fun _ _ => rfl, fun i h1 h2 => absurd h2 (Nat.not_lt.mpr h1)⟩⟩
  obtain ⟨oc, its, hp, sh, ha⟩ := R.cell i c hc
  exact ⟨oc, its, hk _ _ hp, sh, ha.mono (Nat.le_refl _) (fun _ _ => rfl) fun b o' e _ => hk b o' e⟩
end

section
variable {X : Cx} {k : Nat} {env : Env} {sc : Kinds} {m : Loc} {σ : Store} {A : Around} {s : Shared} {ρ : Nat → Addr} {E : Value → Shared → Prop}

end
end Mine

set_option Elab.async false
set_option autoImplicit false
set_option linter.unusedVariables false
namespace Mine
open PySem PySem.Spec PySem.Calls PyProof.Rows

section
variable {X : Cx} {σ σ' : Store} {ρ ρ' : Nat → Addr} {h h' h'' : Heap} {D : Addr} {env : Env} {sc : Kinds} {m : Loc}

/-- what lies at D and is no value's object: the rest stands -/
theorem Rep.but (R : Rep X ρ σ h) (x : Ext1 D h h') (hn : ∀ o, h.get? D = some o → ¬ Still o) (hc : ∀ i, i < σ.length → ρ i ≠ D) (hb : X.B.get? D = none) : Rep X ρ σ h' where
  base := fun b o' e' => x.keep b o' (fun q => by subst q; rw [hb] at e'; cases e') (R.base b o' e')
  cell := fun i c hc' => by
    obtain ⟨oc, its, hp, sh, ha⟩ := R.cell i c hc'
    exact ⟨oc, its, x.keep _ _ (hc i (List.getElem?_eq_some_iff.mp hc').1) hp, sh, ha.mono (Nat.le_refl _) (fun _ _ => rfl) fun b o e hs => x.keep b o (fun q => hn o (q ▸ e) hs) e⟩
  own := R.own
  inj := R.inj

theorem Ext1.still' (x : Ext1 D h h') (hn : ∀ o, h.get? D = some o → ¬ Still o) : ∀ b o, h.get? b = some o → Still o → h'.get? b = some o :=
  fun b o e hs => x.keep b o (fun q => hn o (q ▸ e) hs) e

theorem Ext1.ofSame (q : Heap.SameBut D h h') : Ext1 D h h' := ⟨Nat.le_of_eq q.1.symm, fun b o hb e => (q.2 b hb).trans e⟩

theorem Still.notNs {o : Obj} {es n} (hd : o.data = .dict es n) : ¬ Still o := fun s => s.nodict es n hd
theorem Still.notCell {o : Obj} {v} (hd : o.data = .cell v) : ¬ Still o := fun s => s.nocell v hd
theorem Rep.lt (R : Rep X ρ σ h) {i : Nat} (hi : i < σ.length) : ρ i < h.objs.size := by
  obtain ⟨_, _, hp, _, _⟩ := R.cell i _ (List.getElem?_eq_getElem hi)
  exact Heap.lt_size hp

end

section
variable {X : Cx} {k : Nat} {env : Env} {sc : Kinds} {m : Loc} {σ : Store} {A : Around} {s : Shared} {ρ : Nat → Addr} {E : Value → Shared → Prop} {Q : Unit → Shared → Prop}

theorem storeLocal_sound {x : Str} {v : V} {a : Value} (R : Rep X ρ σ s.heap) (F : Frm X env sc m σ.length ρ s.heap) (hx : sc x = some .local) (hv : Has X σ.length ρ s.heap v a)
    (h : ∀ h' tk, Rep X ρ σ h' → Go (· = env.locals) σ ρ s.heap σ ρ h' → Frm X env sc (upd m x v) σ.length ρ h' → Heap.SameBut env.locals s.heap h' → Q () { s with heap := h', toks := tk }) :
    wpAny (model X.prog X.w) A (storeName env x a) Q E s := by
  obtain ⟨mm, hns, hm⟩ := F.ns
  refine wpAny_storeName_local (F.kinds.loc x hx) hns (fun h' hn' hsb => ?_) (by rw [F.kind]; rfl)
  obtain ⟨oL, esL, epL, eL, dL, rL⟩ := hns
  have ex := Ext1.ofSame hsb
  have hn : ∀ o, s.heap.get? env.locals = some o → ¬ Still o := fun o e => by rw [eL] at e; cases e; exact Still.notNs dL
  have st := ex.still' hn
  have R' := R.but ex hn F.sepL F.newL
  have hv' : ∀ {v a}, Has X σ.length ρ s.heap v a → Has X σ.length ρ h' v a := fun q => q.mono (Nat.le_refl _) (fun _ _ => rfl) st
  have hcell : ∀ c ov, s.heap.IsCell c ov → h'.IsCell c ov := fun c ov ⟨o', e', d⟩ => ⟨o', ex.keep _ _ (fun q => by rw [q, eL] at e'; cases e'; rw [dL] at d; cases d) e', d⟩
  refine h h' _ R' ⟨ex.size, fun b o e hw _ => ⟨o.slots, ex.keep b o hw e, fun _ => rfl⟩, fun b o es n e d => ?_, Nat.le_refl _, fun _ _ => rfl, fun i h1 h2 => absurd h2 (Nat.not_lt.mpr h1)⟩ ?_ hsb
  · by_cases hb : b = env.locals
    · subst hb
      obtain ⟨o', es', ep', e', d', _⟩ := hn'
      exact ⟨o', es', ep', e', d'⟩
    · exact ⟨o, es, n, ex.keep b o hb e, d⟩
  · refine { F with ns := ⟨_, hn', ?_⟩, cells := ?_, isCells := ?_ }
    · intro y u hy hu
      unfold upd at hu
      by_cases hyx : y = x
      · rw [if_pos hyx] at hu; cases hu
        exact ⟨a, if_pos hyx, hv' hv⟩
      · rw [if_neg hyx] at hu
        obtain ⟨b, h1, h2⟩ := hm y u hy hu
        exact ⟨b, by rw [if_neg hyx]; exact h1, hv' h2⟩
    · intro y hy
      obtain ⟨c, ov, h1, h2, h3⟩ := F.cells y hy
      refine ⟨c, ov, h1, hcell c ov h2, fun u hu => ?_⟩
      unfold upd at hu
      by_cases hyx : y = x
      · rw [hyx, hx] at hy; rcases hy with q | q <;> cases q
      · rw [if_neg hyx] at hu
        obtain ⟨b, h4, h5⟩ := h3 u hu
        exact ⟨b, h4, hv' h5⟩
    · intro y c hy
      obtain ⟨ov, h1⟩ := F.isCells y c hy
      exact ⟨ov, hcell c ov h1⟩

theorem store_sound {x : Str} {v : V} {a : Value} (R : Rep X ρ σ s.heap) (F : Frm X env sc m σ.length ρ s.heap) (hx : bindable sc x) (hv : Has X σ.length ρ s.heap v a)
    (h : ∀ h' tk, Rep X ρ σ h' → Go (Wr env) σ ρ s.heap σ ρ h' → Frm X env sc (upd m x v) σ.length ρ h' → Q () { s with heap := h', toks := tk }) :
    wpAny (model X.prog X.w) A (storeName env x a) Q E s := by
  rcases hx with hx | hx
  · exact storeLocal_sound R F hx hv fun h' tk R' g F' _ => h h' tk R' (g.weaken fun b _ _ q => .inl q) F'
  · obtain ⟨c, ov, h1, h2, h3⟩ := F.cells x (.inl hx)
    refine wpAny_storeName_cell F.kind (F.kinds.cell x hx) h1 h2 fun h' hc' hsb => ?_
    obtain ⟨oc, ec, dc⟩ := h2
    have ex := Ext1.ofSame hsb
    have hn : ∀ o, s.heap.get? c = some o → ¬ Still o := fun o e => by rw [ec] at e; cases e; exact Still.notCell dc
    have st := ex.still' hn
    have hsep : ∀ i, i < σ.length → ρ i ≠ c := by
      rintro i hi rfl
      obtain ⟨oc', items, hp, sh, _⟩ := R.cell i _ (List.getElem?_eq_getElem hi)
      rw [hp] at ec; cases ec
      rcases sh.is with ⟨_, _, _, q⟩ | ⟨_, _, _, q⟩ <;> (rw [q] at dc; cases dc)
    have R' := R.but ex hn hsep (F.newC x c h1)
    have hv' : ∀ {v a}, Has X σ.length ρ s.heap v a → Has X σ.length ρ h' v a := fun q => q.mono (Nat.le_refl _) (fun _ _ => rfl) st
    refine h h' _ R' ⟨ex.size, fun b o e hw _ => ⟨o.slots, ex.keep b o (fun q => hw (.inr ⟨x, q ▸ h1⟩)) e, fun _ => rfl⟩, fun b o es n e d => ?_, Nat.le_refl _, fun _ _ => rfl, fun i h1 h2 => absurd h2 (Nat.not_lt.mpr h1)⟩ ?_
    · exact ⟨o, es, n, ex.keep b o (fun q => by rw [q, ec] at e; cases e; rw [dc] at d; cases d) e, d⟩
    · refine { F with ns := ?_, cells := ?_, isCells := ?_ }
      · obtain ⟨mm, ⟨oL, esL, epL, eL, dL, rL⟩, hm⟩ := F.ns
        refine ⟨mm, ⟨oL, esL, epL, ex.keep _ _ (fun q => by rw [q, ec] at eL; cases eL; rw [dc] at dL; cases dL) eL, dL, rL⟩, fun y u hy hu => ?_⟩
        unfold upd at hu
        by_cases hyx : y = x
        · rw [hyx, hx] at hy; cases hy
        · rw [if_neg hyx] at hu
          obtain ⟨b, h4, h5⟩ := hm y u hy hu
          exact ⟨b, h4, hv' h5⟩
      · intro y hy
        by_cases hyx : y = x
        · subst hyx
          refine ⟨c, some a, h1, hc', fun u hu => ?_⟩
          unfold upd at hu
          rw [if_pos rfl] at hu; cases hu
          exact ⟨a, rfl, hv' hv⟩
        · obtain ⟨c', ov', q1, q2, q3⟩ := F.cells y hy
          have hne : c' ≠ c := fun q => hyx (F.apart y x c (q ▸ q1) h1)
          obtain ⟨o', e', d'⟩ := q2
          refine ⟨c', ov', q1, ⟨o', ex.keep _ _ hne e', d'⟩, fun u hu => ?_⟩
          unfold upd at hu
          rw [if_neg hyx] at hu
          obtain ⟨b, h4, h5⟩ := q3 u hu
          exact ⟨b, h4, hv' h5⟩
      · intro y c' hy
        by_cases hne : c' = c
        · subst hne; exact ⟨_, hc'⟩
        · obtain ⟨ov', o', e', d'⟩ := F.isCells y c' hy
          exact ⟨ov', o', ex.keep _ _ hne e', d'⟩
end
theorem mem_lookup {α : Type} : ∀ {l : List (Str × α)} {n : Str} {c : α}, l.lookup n = some c → (n, c) ∈ l := fun h => mem_of_lookup h

end Mine

set_option Elab.async false
set_option autoImplicit false
set_option linter.unusedVariables false
namespace Mine
open PySem PySem.Spec PySem.Calls PyProof.Rows

section
variable {X : Cx} {σ σ' : Store} {ρ ρ' : Nat → Addr} {h h' h'' : Heap} {env : Env} {sc : Kinds} {m : Loc} {W : Addr → Prop}

theorem Rep.grow (R : Rep X ρ σ h) (hk : ∀ b o, h.get? b = some o → h'.get? b = some o) : Rep X ρ σ h' where
  base := fun b o e => hk _ _ (R.base b o e)
  cell := fun i c hc => let ⟨oc, its, hp, sh, ha⟩ := R.cell i c hc; ⟨oc, its, hk _ _ hp, sh, ha.mono (Nat.le_refl _) (fun _ _ => rfl) fun b o e _ => hk b o e⟩
  own := R.own
  inj := R.inj
theorem Go.ofGrow (hz : h.objs.size ≤ h'.objs.size) (hk : ∀ b o, h.get? b = some o → h'.get? b = some o) : Go W σ ρ h σ ρ h' :=
  ⟨hz, fun b o e _ _ => ⟨o.slots, hk b o e, fun _ => rfl⟩, fun b o es n e d => ⟨o, es, n, hk _ _ e, d⟩, Nat.le_refl _, fun _ _ => rfl, fun i h1 h2 => absurd h2 (Nat.not_lt.mpr h1)⟩

end

section
variable {X : Cx} {k : Nat} {Γ : Sig} {env : Env} {sc : Kinds} {m : Loc} {σ : Store} {K : OutE → Prop} {A : Around} {s : Shared} {ρ : Nat → Addr} {E : Value → Shared → Prop} {n : Nat}

end
end Mine

set_option Elab.async false
set_option autoImplicit false
set_option linter.unusedVariables false
namespace Mine
open PySem PySem.Spec PySem.Calls PyProof.Rows

/-- the flying exception, its trace and what is new -/
noncomputable def Dx (e T : Addr) (N : Nat) : Addr → Prop := fun b => b = e ∨ b = T ∨ N ≤ b

/-- the objects of D are records, and no ranges -/
noncomputable def DOk (D : Addr → Prop) (h : Heap) : Prop := ∀ b o, D b → h.get? b = some o → (∃ vs, o.data = .fields vs) ∧ o.cls ≠ .type "range" ∧ o.cls ≠ .type "list"

/-- what happens to a heap while an exception is noted: D's records are turned, frames get slots -/
structure Fl (X : Cx) (D : Addr → Prop) (h h' : Heap) : Prop where
  size : h.objs.size ≤ h'.objs.size
  keep : ∀ b o, h.get? b = some o → ¬ D b → ∃ sl, h'.get? b = some { o with slots := sl } ∧ (NoDict o → sl = o.slots)
  turn : ∀ b o vs, D b → h.get? b = some o → o.data = .fields vs → ∃ o' vs', h'.get? b = some o' ∧ o'.cls = o.cls ∧ o'.data = .fields vs' ∧ o'.dict = o.dict
  base : ∀ b o, X.B.get? b = some o → ¬ D b → h.get? b = some o → h'.get? b = some o

section
variable {X : Cx} {D : Addr → Prop} {h h' h'' : Heap} {n : Nat} {ρ : Nat → Addr} {σ σ' : Store} {ρ' : Nat → Addr} {W : Addr → Prop}

theorem Fl.refl : Fl X D h h := ⟨Nat.le_refl _, fun b o e _ => ⟨o.slots, e, fun _ => rfl⟩, fun b o vs _ e d => ⟨o, vs, e, rfl, d, rfl⟩, fun _ _ _ _ e => e⟩
theorem Fl.trans (x : Fl X D h h') (y : Fl X D h' h'') : Fl X D h h'' where
  size := Nat.le_trans x.size y.size
  keep := fun b o e hb => by
    obtain ⟨sl, e1, f1⟩ := x.keep b o e hb
    obtain ⟨sl', e2, f2⟩ := y.keep b _ e1 hb
    refine ⟨sl', e2, fun hn => ?_⟩
    rw [f2 hn]; exact f1 hn
  turn := fun b o vs hb e d => by
    obtain ⟨o1, vs1, e1, c1, d1, t1⟩ := x.turn b o vs hb e d
    obtain ⟨o2, vs2, e2, c2, d2, t2⟩ := y.turn b o1 vs1 hb e1 d1
    exact ⟨o2, vs2, e2, c2.trans c1, d2, t2.trans t1⟩
  base := fun b o eb hb e => y.base b o eb hb (x.base b o eb hb e)

theorem Fl.exact (x : Fl X D h h') {b : Addr} {o : Obj} (e : h.get? b = some o) (hn : NoDict o) (hb : ¬ D b) : h'.get? b = some o := by
  obtain ⟨sl, e1, f1⟩ := x.keep b o e hb
  rw [f1 hn] at e1
  exact e1

theorem DOk.not (ok : DOk D h) {b : Addr} {o : Obj} (e : h.get? b = some o) (hd : ∀ vs, o.data ≠ .fields vs) : ¬ D b := fun q => by
  obtain ⟨⟨vs, d⟩, _⟩ := ok b o q e
  exact hd vs d

theorem Has.fl {v : V} {a : Value} (x : Has X n ρ h v a) (ok : DOk D h) (f : Fl X D h h') : Has X n ρ h' v a := by
  cases x with
  | d r => exact .d (reads_flat (fun b o e hc hs => by
      obtain ⟨vs, k, hd⟩ := hs
      exact f.exact e (fun es n q => by rw [hd] at q; cases q) (ok.not e fun vs q => by rw [hd] at q; cases q)) r rfl)
  | ref hi => exact .ref hi
  | @exc c C a o fs h1 h2 h3 h4 h5 =>
    by_cases hb : D a
    · obtain ⟨o', vs', e1, c1, d1, t1⟩ := f.turn _ _ _ hb h2 h4
      exact .exc h1 e1 (c1.trans h3) d1 (t1.trans h5)
    · exact .exc h1 (f.exact h2 (fun es n q => by rw [h4] at q; cases q) hb) h3 h4 h5
  | glob h1 => exact .glob h1
  | rng h1 h2 => exact .rng (f.exact h1 (fun es n q => by cases q) fun q => (ok _ _ q h1).2.1 rfl) h2

theorem HasAll.fl {vs : List V} {as : List Value} (x : HasAll X n ρ h vs as) (ok : DOk D h) (f : Fl X D h h') : HasAll X n ρ h' vs as := by
  induction x with
  | nil => exact .nil
  | cons h1 _ ih => exact .cons (h1.fl ok f) ih

theorem Rep.fl (R : Rep X ρ σ h) (ok : DOk D h) (f : Fl X D h h') (hb : ∀ b o, X.B.get? b = some o → ¬ D b) : Rep X ρ σ h' where
  base := fun b o e => f.base b o e (hb b o e) (R.base b o e)
  cell := fun i c e => by
    obtain ⟨oc, items, hp, sh, ha⟩ := R.cell i c e
    have hnD : ¬ D (ρ i) := ok.not hp fun vs q => by rcases sh.is with ⟨_, _, _, d⟩ | ⟨_, _, _, d⟩ <;> (rw [d] at q; cases q)
    cases c with
    | dct => obtain ⟨sl, e1, _⟩ := f.keep _ _ hp hnD; exact ⟨_, items, e1, sh, ha.fl ok f⟩
    | lst xs => obtain ⟨k, rfl⟩ := sh; exact ⟨_, items, f.exact hp (fun es n q => by cases q) hnD, ⟨k, rfl⟩, ha.fl ok f⟩
    | rol xs => obtain ⟨k, rfl⟩ := sh; exact ⟨_, items, f.exact hp (fun es n q => by cases q) hnD, ⟨k, rfl⟩, ha.fl ok f⟩
  own := R.own
  inj := R.inj

theorem Go.fl (g : Go W σ ρ h σ' ρ' h') (f : Fl X D h' h'') (hD : ∀ b, D b → h.objs.size ≤ b) : Go W σ ρ h σ' ρ' h'' where
  size := Nat.le_trans g.size f.size
  keep := fun b o e hw hc => by
    have hb : ¬ D b := fun q => absurd (Heap.lt_size e) (Nat.not_lt.mpr (hD b q))
    obtain ⟨sl, e1, f1⟩ := g.keep b o e hw hc
    obtain ⟨sl', e2, f2⟩ := f.keep b _ e1 hb
    refine ⟨sl', e2, fun hn => ?_⟩
    rw [f2 hn]; exact f1 hn
  dicts := fun b o es n e d => by
    have hb : ¬ D b := fun q => absurd (Heap.lt_size e) (Nat.not_lt.mpr (hD b q))
    obtain ⟨o', es', n', e1, d1⟩ := g.dicts b o es n e d
    obtain ⟨sl', e2, _⟩ := f.keep b _ e1 hb
    exact ⟨_, es', n', e2, d1⟩
  len := g.len
  ext := g.ext
  new := g.new

theorem Frm.fl {env : Env} {sc : Kinds} {m : Loc} (F : Frm X env sc m n ρ h) (ok : DOk D h) (f : Fl X D h h') : Frm X env sc m n ρ h' := by
  have hc : ∀ c ov, h.IsCell c ov → h'.IsCell c ov := fun c ov ⟨o, e, d⟩ => by
    obtain ⟨sl, e1, _⟩ := f.keep c o e (ok.not e fun vs q => by rw [d] at q; cases q)
    exact ⟨_, e1, d⟩
  refine { F with ns := ?_, cells := ?_, isCells := ?_ }
  · obtain ⟨mm, ⟨o, es, ep, e, d, r⟩, hm⟩ := F.ns
    obtain ⟨sl, e1, _⟩ := f.keep _ o e (ok.not e fun vs q => by rw [d] at q; cases q)
    exact ⟨mm, ⟨_, es, ep, e1, d, r⟩, fun x v h1 h2 => let ⟨a, h3, h4⟩ := hm x v h1 h2; ⟨a, h3, h4.fl ok f⟩⟩
  · intro x hx
    obtain ⟨c, ov, h1, h2, h3⟩ := F.cells x hx
    exact ⟨c, ov, h1, hc c ov h2, fun v hv => let ⟨a, h4, h5⟩ := h3 v hv; ⟨a, h4, h5.fl ok f⟩⟩
  · intro x c hx
    obtain ⟨ov, h1⟩ := F.isCells x c hx
    exact ⟨ov, hc c ov h1⟩

theorem Frames.fl {l : List Env} (F : Frames X h l) (ok : DOk D h) (f : Fl X D h h') : Frames X h' l := by
  intro env he
  obtain ⟨h1, L, o, es, k, h2, h3, h4, h5⟩ := F env he
  obtain ⟨sl, e1, _⟩ := f.keep L o h4 (ok.not h4 fun vs q => by rw [h5] at q; cases q)
  exact ⟨h1, L, _, es, k, h2, h3, e1, h5⟩
theorem Ar.fl {k : Nat} {A : Around} {env : Env} (a : Ar X k A env h) (ok : DOk D h) (f : Fl X D h h') : Ar X k A env h' :=
  { a with stack := let ⟨fe, o, h1, h2, h3⟩ := a.stack; ⟨fe, o, h1, h2, h3.fl ok f⟩ }

theorem Frames.fun {l : List Env} (F : Frames X h l) : h.FunFrames X.B l := by
  induction l with
  | nil => trivial
  | cons env r ih =>
    obtain ⟨h1, L, o, es, k, h2, h3, h4, h5⟩ := F env List.mem_cons_self
    exact ⟨h1, ⟨L, o, h2, h3, h4, fun vs q => by rw [h5] at q; cases q⟩, ih fun e he => F e (List.mem_cons_of_mem _ he)⟩

theorem dict_mapFields (o : Obj) (f : Array Value → Array Value) : (o.mapFields f).dict = o.dict := by
  obtain ⟨a, b, c, d⟩ := o
  cases c <;> rfl

/-- a record of D is set -/
theorem Fl.set {e : Addr} {oe : Obj} {vs : Array Value} (De : D e) (he : h.get? e = some oe) (hd : oe.data = .fields vs) (f : Array Value → Array Value) : Fl X D h (h.update e (Obj.mapFields f)) := by
  have other : ∀ b, b ≠ e → (h.update e (Obj.mapFields f)).get? b = h.get? b := fun b hb => Heap.get?_update_other _ _ (Ne.symm hb)
  have self : (h.update e (Obj.mapFields f)).get? e = some (oe.mapFields f) := Heap.get?_update_self _ he (Obj.isFreed_of_fields (Obj.data_mapFields hd f))
  refine ⟨Nat.le_of_eq (Heap.size_after_update ..).symm, fun b o eb hb => ⟨o.slots, ?_, fun _ => rfl⟩, fun b o ws hb eb hw => ?_, fun b o _ hb eb => ?_⟩
  · rw [other b fun q => hb (q ▸ De)]; exact eb
  · by_cases q : b = e
    · subst q
      rw [he] at eb; cases eb
      exact ⟨_, _, self, Obj.cls_mapFields _ _, Obj.data_mapFields hd f, dict_mapFields _ _⟩
    · exact ⟨o, ws, (other b q).trans eb, rfl, hw, rfl⟩
  · rw [other b fun q => hb (q ▸ De)]; exact eb
theorem Fl.push (o : Obj) (hN : D h.objs.size) : Fl X D h (h.push o) :=
  ⟨by rw [Heap.size_push]; exact Nat.le_succ _, fun b o' e _ => ⟨o'.slots, Heap.get?_push_of_some _ e, fun _ => rfl⟩, fun b o' vs _ e d => ⟨o', vs, Heap.get?_push_of_some _ e, rfl, d, rfl⟩, fun b o' _ _ e => Heap.get?_push_of_some _ e⟩
theorem Fl.slots {l : List Env} (F : Frames X h l) (ok : DOk D h) (q : Heap.SlotsOnly (l.filterMap (·.frame)) h h') : Fl X D h h' := by
  have dict : ∀ b, b ∈ l.filterMap (·.frame) → X.B.get? b = none ∧ ∃ o es k, h.get? b = some o ∧ o.data = .dict es k := fun b hb => by
    obtain ⟨env, he, hf⟩ := List.mem_filterMap.mp hb
    obtain ⟨h1, L, o, es, k, h2, h3, h4, h5⟩ := F env he
    rw [h2] at hf; cases hf
    exact ⟨h3, o, es, k, h4, h5⟩
  refine ⟨Nat.le_of_eq q.1.symm, fun b o e _ => ?_, fun b o vs _ e d => ?_, fun b o eb _ e => ?_⟩
  · by_cases hb : b ∈ l.filterMap (·.frame)
    · obtain ⟨_, o', es, k, e', d'⟩ := dict b hb
      rw [e] at e'; cases e'
      obtain ⟨sl, e1⟩ := q.2.2 b o e
      exact ⟨sl, e1, fun hn => absurd d' (hn es k)⟩
    · exact ⟨o.slots, (q.2.1 b hb).trans e, fun _ => rfl⟩
  · have hb : b ∉ l.filterMap (·.frame) := fun hb => by
      obtain ⟨_, o', es, k, e', d'⟩ := dict b hb
      rw [e] at e'; cases e'
      rw [d] at d'; cases d'
    exact ⟨o, vs, (q.2.1 b hb).trans e, rfl, d, rfl⟩
  · have hb : b ∉ l.filterMap (·.frame) := fun hb => by
      rw [(dict b hb).1] at eb; cases eb
    exact (q.2.1 b hb).trans e
end
end Mine

set_option Elab.async false
set_option autoImplicit false
set_option linter.unusedVariables false
namespace Mine
open PySem PySem.Spec PySem.Calls PyProof.Rows

/-- an own exception with a trace whose flight is told by fl -/
structure FliesT (X : Cx) (c : Str) (sz : Nat) (e : Addr) (fl : Value) (h : Heap) : Prop where
  ex : ∃ C oe vs T oT ts, X.mg c = some (.ref C) ∧ h.get? e = some oe ∧ oe.cls = .ref C ∧ (oe.data = .fields vs ∧ oe.dict = none) ∧ vs[1]? = some (.ref T) ∧ T ≠ e ∧ sz ≤ T ∧ h.get? T = some oT ∧ oT.data = .fields ts ∧ oT.cls = .type "traceback" ∧ ts[3]? = some fl
  new : sz ≤ e

theorem FliesT.flies {X : Cx} {c : Str} {sz : Nat} {e L : Addr} {h : Heap} (x : FliesT X c sz e (rawInt L) h) : Flies X c (some L) sz e h := by
  obtain ⟨⟨C, oe, vs, T, oT, ts, h1, h2, h3, h4, h5, h6, h7, h8, h9, h10, h11⟩, hn⟩ := x
  exact ⟨⟨C, oe, vs, h1, h2, h3, h4, (Array.getElem?_eq_some_iff.mp h5).1, .inr ⟨T, oT, ts, h5, h6, h7, h8, h9, h10, (Array.getElem?_eq_some_iff.mp h11).1, .inr ⟨L, rfl, h11⟩⟩⟩, hn⟩
theorem FliesT.none {X : Cx} {c : Str} {sz : Nat} {e : Addr} {fr : Option Addr} {h : Heap} (x : FliesT X c sz e .none h) : Flies X c fr sz e h := by
  obtain ⟨⟨C, oe, vs, T, oT, ts, h1, h2, h3, h4, h5, h6, h7, h8, h9, h10, h11⟩, hn⟩ := x
  exact ⟨⟨C, oe, vs, h1, h2, h3, h4, (Array.getElem?_eq_some_iff.mp h5).1, .inr ⟨T, oT, ts, h5, h6, h7, h8, h9, h10, (Array.getElem?_eq_some_iff.mp h11).1, .inl h11⟩⟩, hn⟩

section
variable {X : Cx} {k : Nat} {A : Around} {env : Env} {s : Shared} {E : Value → Shared → Prop} {M : Model} {c : Str} {sz : Nat} {e L : Addr}

theorem frameOf_gen {fenv : Env} {outer : List Env} {base : Heap} {Q : Value → Shared → Prop} (hfr : A.frames = some (fenv :: outer)) (hfe : fenv.frame = env.frame) (hl : s.heap.FunFrames base (fenv :: outer)) (hf : env.frame = some L)
    (h : ∀ h', Heap.SlotsOnly ((fenv :: outer).filterMap (·.frame)) s.heap h' → Q (.ref L) { s with heap := h' }) : wpAny M A (PySem.frameOf env) Q E s := by
  unfold PySem.frameOf
  refine wpAny_bind (wpAny_frameEnvs hfr ?_)
  have hdw : ((fenv :: outer).dropWhile fun x => x.frame != env.frame) = fenv :: outer := by simp [List.dropWhile, hfe]
  rw [hdw]
  unfold frameObject
  refine wpAny_bind (wpAny_bind (wpAny_readyFrames_fun hl fun h₁ hs₁ => wpAny_pure ?_))
  rw [hfe, hf]
  exact wpAny_pure (h h₁ hs₁)

theorem entry_sound {D : Addr → Prop} {head : Value} {hadNext : Bool} {C : Addr} {oe : Obj} {vs : Array Value} {Q : Unit → Shared → Prop} (ar : Ar X k A env s.heap) (hf : env.frame = some L) (ok : DOk D s.heap) (De : D e) (DN : ∀ b, s.heap.objs.size ≤ b → D b)
    (hm : X.mg c = some (.ref C)) (he : s.heap.get? e = some oe) (hc : oe.cls = .ref C) (hd : oe.data = .fields vs) (hdd : oe.dict = none) (h1 : 1 < vs.size) (hsz : sz ≤ s.heap.objs.size) (hse : sz ≤ e)
    (hQ : ∀ h', Fl X D s.heap h' → FliesT X c sz e (rawInt L) h' → Q () { s with heap := h' }) :
    wpAny M A (do let a ← PySem.frameOf env; let pl ← entryPlaceOf L hadNext; let b ← EntryCells.newEntry head a .none (rawInt L) .none pl; setField (.ref e) 1 b) Q E s := by
  obtain ⟨fenv, outer, hfr, hfe, F⟩ := ar.stack
  refine wpAny_bind (frameOf_gen hfr hfe F.fun hf fun h₁ hs₁ => ?_)
  refine wpAny_bind (wpAny_entryPlaceOf fun pl hpl => ?_)
  unfold EntryCells.newEntry newFields
  refine wpAny_bind (wpAny_newObj_type ?_ (hpl.sizeOk5 _ _ _ _ _))
  have f₁ : Fl X D s.heap h₁ := .slots F ok hs₁
  have hz₁ : h₁.objs.size = s.heap.objs.size := hs₁.1
  have he₁ : h₁.get? e = some oe := by
    have hb : e ∉ (fenv :: outer).filterMap (·.frame) := fun hb => by
      obtain ⟨_, o, ho, hnf⟩ := F.fun.mem hb
      rw [he] at ho; cases ho; exact hnf vs hd
    exact (hs₁.2.1 e hb).trans he
  have he₂ := Heap.get?_push_of_some (h := h₁) { cls := .type "traceback", dict := none, data := .fields ([head, .ref L, .none, rawInt L, .none] ++ (if pl.isEmpty then List.replicate 6 Value.none else pl)).toArray } he₁
  have hTe : h₁.objs.size ≠ e := Nat.ne_of_gt (Heap.lt_size he₁)
  refine wpAny_setField he₂ hd h1 (hQ _ ((f₁.trans (.push _ (DN _ (Nat.le_of_eq hz₁.symm)))).trans (.set De he₂ hd _)) ?_)
  have hd₃ := Obj.data_mapFields hd (·.setIfInBounds 1 (Value.ref h₁.objs.size))
  refine ⟨⟨C, _, _, h₁.objs.size, _, _, hm, Heap.get?_update_self _ he₂ (Obj.isFreed_of_fields hd₃), (Obj.cls_mapFields _ _).trans hc, ⟨hd₃, (dict_mapFields _ _).trans hdd⟩, by simp [h1], hTe, by rw [hz₁]; exact hsz, (Heap.get?_update_other _ _ (Ne.symm hTe)).trans (Heap.get?_push_size h₁ rfl), rfl, rfl, ?_⟩, hse⟩
  simp

theorem note_sound {Q : Unit → Shared → Prop} (ar : Ar X k A env s.heap) (hf : env.frame = some L) (fl : Flies X c env.frame sz e s.heap) (hsz : sz ≤ s.heap.objs.size)
    (hQ : ∀ D h', DOk D s.heap → (∀ b, D b → sz ≤ b) → Fl X D s.heap h' → FliesT X c sz e (rawInt L) h' → Q () { s with heap := h' }) : wpAny M A (noteFrame (.ref e) env) Q E s := by
  obtain ⟨⟨C, oe, vs, hm, he, hc, ⟨hd, hdd⟩, h1, hT⟩, hse⟩ := fl
  have lt : ∀ {h : Heap} {b o}, h.get? b = some o → ¬ h.objs.size ≤ b := fun e => Nat.not_le.mpr (Heap.lt_size e)
  unfold noteFrame
  simp only [hf]
  rcases hT with hT | ⟨T, oT, ts, hT, hTe, hsT, eT, dT, cT, h3, hfl⟩
  · refine wpAny_bind (wpAny_field he hd hT ?_)
    rw [if_neg (by decide)]
    have ok : DOk (Dx e e s.heap.objs.size) s.heap := by
      rintro b o (rfl | rfl | q) eb
      · rw [he] at eb; cases eb; exact ⟨⟨vs, hd⟩, (by rw [hc]; exact fun q => nomatch q), (by rw [hc]; exact fun q => nomatch q)⟩
      · rw [he] at eb; cases eb; exact ⟨⟨vs, hd⟩, (by rw [hc]; exact fun q => nomatch q), (by rw [hc]; exact fun q => nomatch q)⟩
      · exact absurd q (lt eb)
    refine entry_sound (D := Dx e e s.heap.objs.size) ar hf ok (.inl rfl) (fun b hb => .inr (.inr hb)) hm he hc hd hdd h1 hsz hse fun h' f x => hQ _ h' ok ?_ f x
    rintro b (rfl | rfl | q)
    · exact hse
    · exact hse
    · exact Nat.le_trans hsz q
  · have ok : DOk (Dx e T s.heap.objs.size) s.heap := by
      rintro b o (rfl | rfl | q) eb
      · rw [he] at eb; cases eb; exact ⟨⟨vs, hd⟩, (by rw [hc]; exact fun q => nomatch q), (by rw [hc]; exact fun q => nomatch q)⟩
      · rw [eT] at eb; cases eb; exact ⟨⟨ts, dT⟩, by rw [cT]; decide, by rw [cT]; decide⟩
      · exact absurd q (lt eb)
    have hD : ∀ b, Dx e T s.heap.objs.size b → sz ≤ b := by
      rintro b (rfl | rfl | q)
      · exact hse
      · exact hsT
      · exact Nat.le_trans hsz q
    refine wpAny_bind (wpAny_field he hd hT ?_)
    rw [if_pos (show (Value.ref T != Value.none) = true from by simp)]
    rcases hfl with h3n | ⟨F, hF, h3F⟩
    · refine wpAny_bind (wpAny_field eT dT h3n ?_)
      rw [if_neg (show ¬ ((Value.none == rawInt L) = true) from by simp [rawInt])]
      refine wpAny_bind (wpAny_setField eT dT h3 ?_)
      have fs : Fl X (Dx e T s.heap.objs.size) s.heap (s.heap.update T (Obj.mapFields (·.setIfInBounds 3 Value.none))) := .set (.inr (.inl rfl)) eT dT _
      have hz : (s.heap.update T (Obj.mapFields (·.setIfInBounds 3 Value.none))).objs.size = s.heap.objs.size := Heap.size_after_update ..
      have ok' : DOk (Dx e T s.heap.objs.size) (s.heap.update T (Obj.mapFields (·.setIfInBounds 3 Value.none))) := by
        rintro b o hb eb
        by_cases q : b = T
        · subst q
          rw [Heap.get?_update_self _ eT (Obj.isFreed_of_fields (Obj.data_mapFields dT _))] at eb
          cases eb
          exact ⟨⟨_, Obj.data_mapFields dT _⟩, by rw [Obj.cls_mapFields, cT]; decide, by rw [Obj.cls_mapFields, cT]; decide⟩
        · rw [Heap.get?_update_other _ _ (Ne.symm q)] at eb
          exact ok b o hb eb
      refine entry_sound (s := { s with heap := s.heap.update T (Obj.mapFields (·.setIfInBounds 3 Value.none)) }) (D := Dx e T s.heap.objs.size) (ar.fl ok fs) hf ok' (.inl rfl) (fun b hb => .inr (.inr (by rw [← hz]; exact hb))) hm
        ((Heap.get?_update_other _ _ hTe).trans he) hc hd hdd h1 (by show sz ≤ _; rw [hz]; exact hsz) hse fun h' f x => hQ _ h' ok hD (fs.trans f) x
    · have hFL : F = L := by rw [hf] at hF; exact (Option.some.inj hF).symm
      subst hFL
      refine wpAny_bind (wpAny_field eT dT h3F ?_)
      rw [if_pos (by simp)]
      exact wpAny_pure (hQ _ s.heap ok hD .refl ⟨⟨C, oe, vs, T, oT, ts, hm, he, hc, ⟨hd, hdd⟩, hT, hTe, hsT, eT, dT, cT, h3F⟩, hse⟩)

theorem flight_sound {fl fl' : Value} {fr : Option Addr} {Q : Unit → Shared → Prop} (x : FliesT X c sz e fl s.heap) (hfl : fl' = fr.elim .none fun f => rawInt f)
    (hQ : ∀ D h', DOk D s.heap → (∀ b, D b → sz ≤ b) → Fl X D s.heap h' → FliesT X c sz e fl' h' → Q () { s with heap := h' }) : wpAny M A (setFlight (.ref e) fr) Q E s := by
  obtain ⟨⟨C, oe, vs, T, oT, ts, hm, he, hc, ⟨hd, hdd⟩, hT, hTe, hsT, eT, dT, cT, h3⟩, hse⟩ := x
  have h3' := (Array.getElem?_eq_some_iff.mp h3).1
  have ok : DOk (fun b => b = e ∨ b = T) s.heap := by
    rintro b o (rfl | rfl) eb
    · rw [he] at eb; cases eb; exact ⟨⟨vs, hd⟩, (by rw [hc]; exact fun q => nomatch q), (by rw [hc]; exact fun q => nomatch q)⟩
    · rw [eT] at eb; cases eb; exact ⟨⟨ts, dT⟩, by rw [cT]; decide, by rw [cT]; decide⟩
  have hD : ∀ b, (b = e ∨ b = T) → sz ≤ b := by
    rintro b (rfl | rfl)
    · exact hse
    · exact hsT
  unfold setFlight
  refine wpAny_bind (wpAny_field he hd hT ?_)
  rw [if_pos (show (Value.ref T != Value.none) = true from by simp)]
  refine wpAny_setField eT dT h3' (hQ _ _ ok hD (.set (.inr rfl) eT dT _) ?_)
  refine ⟨⟨C, oe, vs, T, _, _, hm, (Heap.get?_update_other _ _ hTe).trans he, hc, ⟨hd, hdd⟩, hT, hTe, hsT, Heap.get?_update_self _ eT (Obj.isFreed_of_fields (Obj.data_mapFields dT _)), Obj.data_mapFields dT _, (Obj.cls_mapFields _ _).trans cT, ?_⟩, hse⟩
  rw [hfl]
  simp [h3']
end
end Mine

set_option Elab.async false
set_option autoImplicit false
set_option linter.unusedVariables false
namespace Mine
open PySem PySem.Spec PySem.Calls PyProof.Rows

section
variable {X : Cx} {k : Nat} {Γ : Sig} {env : Env} {sc : Kinds} {m : Loc} {σ : Store} {K : OutE → Prop} {A : Around} {s : Shared} {ρ : Nat → Addr} {E : Value → Shared → Prop}

theorem tests_sound {ev : Ev} {pos : Pos} {f : Bool → Store → Prop} {Q : Bool → Shared → Prop} (hev : ∀ e m σ K, ev e m σ K → SE X k env sc (eval e env) m σ K) : ∀ (ops : List CmpOp) (es : List Expr) (a : V) (va : Value) (σ : Store) (s : Shared) (ρ : Nat → Addr),
    wpCmps ev ops es a m σ K f → Ar X k A env s.heap → Rep X ρ σ s.heap → Frm X env sc m σ.length ρ s.heap → Has X σ.length ρ s.heap a va → ErE X env.frame σ ρ s K E →
    (∀ r σ' ρ' h' tk, f r σ' → Rep X ρ' σ' h' → Go Nowhere σ ρ s.heap σ' ρ' h' → Ar X k A env h' → Frm X env sc m σ'.length ρ' h' → Q r { s with heap := h', toks := tk }) →
    wpAny (model X.prog X.w) A (testChain pos va ops (markedEach ops es (evalEach es env))) Q E s
  | [op], [e], a, va, σ, s, ρ, hw, ar, R, F, hv, er, h => by
    unfold wpCmps at hw
    show wpAny _ A (holding [va] (markedBehindIn op e (eval e env)) >>= fun rv => standAt pos >>= fun _ => operate [va, rv] (compareOp op va rv) >>= fun c => holding [c] (truthy c)) Q E s
    rw [markedBehindIn_of_false hw.1]
    refine wpAny_bind (wpAny_holding (SE.andThen (hev _ _ _ _ hw.2) ar R F er fun b σ₁ ρ₁ vb h₁ tk hf R₁ g₁ hb ar₁ F₁ => ?_))
    exact wpAny_bind (wpAny_standAt (wpAny_bind (wpAny_operating (cmp_sound hf ar₁ R₁ (hv.go R g₁ .nowhere) hb fun r hr => wpAny_holding (wpAny_truthy_bool (h r σ₁ ρ₁ h₁ tk hr R₁ g₁ ar₁ F₁))))))
  | op :: op' :: ops, e :: e' :: es, a, va, σ, s, ρ, hw, ar, R, F, hv, er, h => by
    unfold wpCmps at hw
    show wpAny _ A (holding [va] (eval e env) >>= fun rv => standAt pos >>= fun _ => holding [va, rv] (compareOp op va rv) >>= fun c => release [va, rv] [c] >>= fun _ => holding [c, rv] (truthy c) >>= fun t =>
      if t = true then testChain pos rv (op' :: ops) (markedEach (op' :: ops) (e' :: es) (evalEach (e' :: es) env)) else pure false) Q E s
    refine wpAny_bind (wpAny_holding (SE.andThen (hev _ _ _ _ hw) ar R F er fun b σ₁ ρ₁ vb h₁ tk hf R₁ g₁ hb ar₁ F₁ => ?_))
    refine wpAny_bind (wpAny_standAt (wpAny_bind (wpAny_holding (cmp_sound hf ar₁ R₁ (hv.go R g₁ .nowhere) hb fun r hr => ?_))))
    refine wpAny_bind (release_any (wpAny_bind (wpAny_holding (wpAny_truthy_bool ?_))))
    cases r with
    | false => exact wpAny_pure (h false σ₁ ρ₁ h₁ tk hr R₁ g₁ ar₁ F₁)
    | true =>
      refine tests_sound hev (op' :: ops) (e' :: es) b vb σ₁ { s with heap := h₁, toks := tk } ρ₁ hr ar₁ R₁ F₁ hb (er.after g₁) fun r σ₂ ρ₂ h₂ tk₂ hf₂ R₂ g₂ ar₂ F₂ => ?_
      exact h r σ₂ ρ₂ h₂ tk₂ hf₂ R₂ (g₁.trans g₂) ar₂ F₂
  | [], _, _, _, _, _, _, hw, _, _, _, _, _, _ => by unfold wpCmps at hw; exact hw.elim
  | [_], [], _, _, _, _, _, hw, _, _, _, _, _, _ => by unfold wpCmps at hw; exact hw.elim
  | _ :: _ :: _, [], _, _, _, _, _, hw, _, _, _, _, _, _ => by unfold wpCmps at hw; exact hw.elim
  | [_], _ :: _ :: _, _, _, _, _, _, hw, _, _, _, _, _, _ => by unfold wpCmps at hw; exact hw.elim
  | _ :: _ :: _, [_], _, _, _, _, _, hw, _, _, _, _, _, _ => by unfold wpCmps at hw; exact hw.elim

theorem all_sound {tv : Tv} {op : BoolOp} {f : Bool → Store → Prop} {Q : Bool → Shared → Prop} (htv : ∀ e m σ K f, tv e m σ K f → ST X k env sc (isTrue e env (eval e env)) m σ K f) : ∀ (es : List Expr) (σ : Store) (s : Shared) (ρ : Nat → Addr),
    wpAll tv op es m σ K f → Ar X k A env s.heap → Rep X ρ σ s.heap → Frm X env sc m σ.length ρ s.heap → ErE X env.frame σ ρ s K E →
    (∀ r σ' ρ' h' tk, f r σ' → Rep X ρ' σ' h' → Go Nowhere σ ρ s.heap σ' ρ' h' → Ar X k A env h' → Frm X env sc m σ'.length ρ' h' → Q r { s with heap := h', toks := tk }) →
    wpAny (model X.prog X.w) A (allTrue op es env) Q E s
  | [], σ, s, ρ, hw, ar, R, F, er, h => wpAny_pure (h _ σ ρ s.heap s.toks hw R (.refl ..) ar F)
  | e :: r, σ, s, ρ, hw, ar, R, F, er, h => by
    unfold wpAll at hw
    have step : ∀ (b : Bool) σ₁ ρ₁ h₁ tk, Rep X ρ₁ σ₁ h₁ → Go Nowhere σ ρ s.heap σ₁ ρ₁ h₁ → Ar X k A env h₁ → Frm X env sc m σ₁.length ρ₁ h₁ → wpAll tv op r m σ₁ K f → wpAny (model X.prog X.w) A (allTrue op r env) Q E { s with heap := h₁, toks := tk } :=
      fun b σ₁ ρ₁ h₁ tk R₁ g₁ ar₁ F₁ hf => all_sound htv r σ₁ { s with heap := h₁, toks := tk } ρ₁ hf ar₁ R₁ F₁ (er.after g₁) fun r σ₂ ρ₂ h₂ tk₂ hf₂ R₂ g₂ ar₂ F₂ => h r σ₂ ρ₂ h₂ tk₂ hf₂ R₂ (g₁.trans g₂) ar₂ F₂
    cases op with
    | And =>
      refine wpAny_allTrue_And_cons (htv _ _ _ _ _ hw A s ρ _ E ar R F (fun b σ₁ ρ₁ h₁ tk hf R₁ g₁ ar₁ F₁ => ?_) er)
      cases b with
      | false => exact h false σ₁ ρ₁ h₁ tk hf R₁ g₁ ar₁ F₁
      | true => exact step true σ₁ ρ₁ h₁ tk R₁ g₁ ar₁ F₁ hf
    | Or =>
      refine wpAny_allTrue_Or_cons (htv _ _ _ _ _ hw A s ρ _ E ar R F (fun b σ₁ ρ₁ h₁ tk hf R₁ g₁ ar₁ F₁ => ?_) er)
      cases b with
      | true => exact h true σ₁ ρ₁ h₁ tk hf R₁ g₁ ar₁ F₁
      | false => exact step false σ₁ ρ₁ h₁ tk R₁ g₁ ar₁ F₁ hf

theorem isTrue_else {e : Expr} (h1 : ∀ x p, e ≠ .UnaryOp .Not x p) (h2 : ∀ o v p, e ≠ .BoolOp o v p) (h3 : ∀ a b c p, e ≠ .IfExp a b c p) (h4 : ∀ a b c p, e ≠ .Compare a b c p) (whole : Sem Value) :
    isTrue e env whole = (do let v ← whole; standAt e.pos; holding [v] (truthy v)) := by
  cases e with
  | UnaryOp op x p => cases op with
    | Not => exact absurd rfl (h1 _ _)
    | _ => rfl
  | BoolOp o v p => exact absurd rfl (h2 _ _ _)
  | IfExp a b c p => exact absurd rfl (h3 _ _ _ _)
  | Compare a b c p => exact absurd rfl (h4 _ _ _ _)
  | _ => rfl

theorem ST.ofE {e : Expr} {f : Bool → Store → Prop} (h1 : ∀ x p, e ≠ .UnaryOp .Not x p) (h2 : ∀ o v p, e ≠ .BoolOp o v p) (h3 : ∀ a b c p, e ≠ .IfExp a b c p) (h4 : ∀ a b c p, e ≠ .Compare a b c p)
    (x : SE X k env sc (eval e env) m σ (thenE K fun v σ => ∃ b, truthW v = some b ∧ f b σ)) : ST X k env sc (isTrue e env (eval e env)) m σ K f := by
  intro A s ρ Q E ar R F h er
  refine wpAny_isTrue_value (SE.andThen x ar R F er fun v σ₁ ρ₁ a h₁ tk hf R₁ g₁ hv ar₁ F₁ => ?_) (isTrue_else h1 h2 h3 h4 _)
  obtain ⟨b, ht, hf⟩ := hf
  exact truth_sound ht hv (h b σ₁ ρ₁ h₁ tk hf R₁ g₁ ar₁ F₁)

theorem newObjTuple {items : List Value} {Q : Value → Shared → Prop} (R : Rep X ρ σ s.heap) {ds : List PyData} (hv : HasAll X σ.length ρ s.heap (ds.map V.d) items)
    (h : ∀ h', Rep X ρ σ h' → Go Nowhere σ ρ s.heap σ ρ h' → Has X σ.length ρ h' (.d (.tuple ds)) (.ref s.heap.objs.size) → Q (.ref s.heap.objs.size) { s with heap := h' }) :
    Q (.ref s.heap.objs.size) { s with heap := s.heap.push { cls := .type "tuple", data := .seq items.toArray } } := by
  obtain ⟨R', g'⟩ := R.push (W := Nowhere) { cls := .type "tuple", data := .seq items.toArray }
  refine h _ R' g' (.d (.tuple (Heap.get?_push_size _ rfl) rfl rfl ?_))
  have : ∀ (ds : List PyData) (items : List Value), HasAll X σ.length ρ s.heap (ds.map V.d) items → ReadsAll s.heap items ds [] := by
    intro ds
    induction ds with
    | nil => intro items x; cases x; exact .nil
    | cons d ds ih =>
      intro items x
      cases x with
      | cons h1 h2 => exact .cons h1.d_inv (ih _ h2)
  exact readsAll_flat (fun b o e _ _ => Heap.get?_push_of_some _ e) (this ds items hv) rfl

theorem dict_sound {pos : Pos} {Q : Value → Shared → Prop} (h : ∀ o, o.cls = .type "dict" → (∃ es n, o.data = .dict es n) → Q (.ref s.heap.objs.size) { s with heap := s.heap.push o }) : wpAny (model X.prog X.w) A (eval (.Dict [] [] pos) env) Q E s :=
  wpAny_Dict_empty (h _ rfl ⟨_, _, rfl⟩)

theorem sound (cx : CxOk X) (ok : SigOk X k Γ) : ∀ n, (∀ env sc e m σ K, wpE Γ n sc e m σ K → SE X k env sc (eval e env) m σ K) ∧
    (∀ env sc e m σ K f, wpT Γ n sc e m σ K f → ST X k env sc (isTrue e env (eval e env)) m σ K f) := by
  intro n
  induction n with
  | zero => exact ⟨fun env sc e m σ K h => by unfold wpE at h; exact h.elim, fun env sc e m σ K f h => by unfold wpT at h; exact h.elim⟩
  | succ n ih =>
    obtain ⟨ihE, ihT⟩ := ih
    constructor
    · intro env sc e m σ K hw A s ρ Q E ar R F hok er
      cases e with
      | Constant c j p => exact const_sound R (by simpa only [wpE] using hw) hok
      | Name x p => exact name_sound cx ok R F (by simpa only [wpE] using hw) hok
      | BinOp l op r p =>
        simp only [wpE] at hw
        refine wpAny_BinOp (SE.andThen (ihE _ _ _ _ _ _ hw) ar R F er fun a σ₁ ρ₁ va h₁ tk hf R₁ g₁ ha ar₁ F₁ => ?_)
        refine SE.andThen (s := { s with heap := h₁, toks := tk }) (ihE _ _ _ _ _ _ hf) ar₁ R₁ F₁ (er.after g₁) fun b σ₂ ρ₂ vb h₂ tk₂ hf₂ R₂ g₂ hb ar₂ F₂ => ?_
        exact bin_sound hf₂ R₂ (ha.go R₁ g₂ .nowhere) hb (hok.after (g₁.trans g₂))
      | UnaryOp op x p =>
        simp only [wpE] at hw
        refine wpAny_UnaryOp (SE.andThen (ihE _ _ _ _ _ _ hw) ar R F er fun a σ₁ ρ₁ va h₁ tk hf R₁ g₁ ha ar₁ F₁ => ?_)
        exact un_sound hf R₁ ha (hok.after g₁)
      | BoolOp op vs p =>
        simp only [wpE] at hw
        exact bools_sound (fun e m σ K => ihE env sc e m σ K) vs σ s ρ hw ar R F hok er
      | Compare l ops rs p =>
        simp only [wpE] at hw
        show wpAny _ A (eval l env >>= fun a => compareChain p a ops (markedEach ops rs (evalEach rs env))) Q E s
        refine wpAny_bind (SE.andThen (ihE _ _ _ _ _ _ hw) ar R F er fun a σ₁ ρ₁ va h₁ tk hf R₁ g₁ ha ar₁ F₁ => ?_)
        exact cmps_sound (fun e m σ K => ihE env sc e m σ K) ops rs a va σ₁ { s with heap := h₁, toks := tk } ρ₁ hf ar₁ R₁ F₁ ha (er.after g₁) fun r σ₂ ρ₂ h₂ tk₂ hK R₂ g₂ _ _ => hok _ _ _ _ _ _ hK R₂ (g₁.trans g₂) (.ofBool r)
      | List es p =>
        simp only [wpE] at hw
        refine wpAny_List_spliced (args_sound (fun e m σ K => ihE env sc e m σ K) es σ _ s ρ _ hw.1 hw.2 ar R F er fun vs σ₁ ρ₁ as h₁ tk hf R₁ g₁ hvs ar₁ F₁ => ⟨?_, ?_⟩)
        · rw [sizeLine_eq, ← hvs.length]; have := hf.1; omega
        · have := R₁.newList (n := 0) hvs
          have hh := hok _ _ _ (.ref h₁.objs.size) _ tk hf.2 this.1 (g₁.trans this.2) (by
            have := Has.ref (X := X) (n := (σ₁ ++ [Cell.lst vs]).length) (ρ := fun i => if i = σ₁.length then h₁.objs.size else ρ₁ i) (h := h₁.push { cls := .type "list", data := .seq as.toArray 0 }) (i := σ₁.length) (by simp)
            simpa using this)
          exact hh
      | Tuple es j p =>
        simp only [wpE] at hw
        refine wpAny_Tuple_spliced (args_sound (fun e m σ K => ihE env sc e m σ K) es σ _ s ρ _ hw.1 hw.2 ar R F er fun vs σ₁ ρ₁ as h₁ tk hf R₁ g₁ hvs ar₁ F₁ => ?_)
        obtain ⟨ds, rfl, hlen, hK⟩ := hf
        refine ⟨?_, newObjTuple (s := { s with heap := h₁, toks := tk }) R₁ hvs fun h' R' g' hv' => hok _ _ _ _ _ _ hK R' (g₁.trans g') hv'⟩
        rw [sizeLine_eq, ← hvs.length, List.length_map]; omega
      | Subscript a i p =>
        have hi : (∀ b c d q, i ≠ .Slice b c d q) ∧ wpE Γ n sc a m σ (thenE K fun o σ => wpE Γ n sc i m σ (thenE K fun j σ => itemW o j σ K)) := by
          simp only [wpE] at hw
          exact ⟨fun b c d q e => by rw [e] at hw; exact absurd hw.1 (by simp [noSlice]), hw.2⟩
        obtain ⟨hns, hw⟩ := hi
        refine Subscript_ (SE.andThen (ihE _ _ _ _ _ _ hw) ar R F er fun o σ₁ ρ₁ vo h₁ tk hf R₁ g₁ ho ar₁ F₁ => ?_)
        refine SE.andThen (s := { s with heap := h₁, toks := tk }) (ihE _ _ _ _ _ _ hf) ar₁ R₁ F₁ (er.after g₁) fun j σ₂ ρ₂ vj h₂ tk₂ hf₂ R₂ g₂ hj ar₂ F₂ => ?_
        exact item_sound hns hf₂ R₂ (ho.go R₁ g₂ .nowhere) hj (hok.after (g₁.trans g₂))
      | Call f args kws p =>
        simp only [wpE] at hw
        split at hw
        · rename_i x np
          obtain ⟨hsc, hco, T, hT, hst, hw⟩ := hw
          obtain ⟨fv, hval, hkp, hcall⟩ := ok.fn x T hT
          refine wpAny_Call_NameR (glob_sound cx R F hsc hval ?_)
          refine callWith_gen (args_noStar args hst) hkp (evalArgs_gen (args_noStar args hst) ?_)
          refine args_sound (fun e m σ K => ihE env sc e m σ K) args σ _ s ρ _ hst hw ar R F er fun vs σ₁ ρ₁ as h₁ tk hf R₁ g₁ hvs ar₁ F₁ => ⟨R₁.base, ?_⟩
          exact hcall vs σ₁ K hf A { s with heap := h₁, toks := tk } ρ₁ _ Q E ar₁.c R₁ (by simpa using hvs) (hok.after g₁) (er.after g₁).none
        · exact hw.elim
      | Dict ks vs p =>
        simp only [wpE] at hw
        obtain ⟨rfl, rfl, hK⟩ := hw
        refine dict_sound fun o h1 h2 => ?_
        have := R.newCell (cc := .dct) (oo := o) (items := []) ⟨h1, h2⟩ .nil
        have hh := hok _ _ _ (.ref s.heap.objs.size) _ s.toks hK this.1 this.2 (by
            have := Has.ref (X := X) (n := (σ ++ [Cell.dct]).length) (ρ := fun i => if i = σ.length then s.heap.objs.size else ρ i) (h := s.heap.push o) (i := σ.length) (by simp)
            simpa using this)
        exact hh
      | _ => simp only [wpE] at hw
    · intro env sc e m σ K f hw
      by_cases h1 : ∃ x p, e = .UnaryOp .Not x p
      · obtain ⟨x, p, rfl⟩ := h1
        simp only [wpT] at hw
        intro A s ρ Q E ar R F h er
        exact wpAny_isTrue_Not (ihT _ _ _ _ _ _ _ hw A s ρ _ E ar R F (fun b σ₁ ρ₁ h₁ tk hf R₁ g₁ ar₁ F₁ => h (!b) σ₁ ρ₁ h₁ tk hf R₁ g₁ ar₁ F₁) er)
      · by_cases h2 : ∃ o v p, e = .BoolOp o v p
        · obtain ⟨o, v, p, rfl⟩ := h2
          simp only [wpT] at hw
          intro A s ρ Q E ar R F h er
          exact wpAny_isTrue_BoolOp (all_sound (fun e m σ K f => ihT env sc e m σ K f) v σ s ρ hw ar R F er h)
        · by_cases h3 : ∃ a b c p, e = .IfExp a b c p
          · obtain ⟨a, b, c, p, rfl⟩ := h3
            simp only [wpT] at hw
          · by_cases h4 : ∃ a b c p, e = .Compare a b c p
            · obtain ⟨l, ops, rs, p, rfl⟩ := h4
              simp only [wpT] at hw
              intro A s ρ Q E ar R F h er
              show wpAny _ A (eval l env >>= fun a => testChain p a ops (markedEach ops rs (evalEach rs env))) Q E s
              refine wpAny_bind (SE.andThen (ihE _ _ _ _ _ _ hw) ar R F er fun a σ₁ ρ₁ va h₁ tk hf R₁ g₁ ha ar₁ F₁ => ?_)
              exact tests_sound (fun e m σ K => ihE env sc e m σ K) ops rs a va σ₁ { s with heap := h₁, toks := tk } ρ₁ hf ar₁ R₁ F₁ ha (er.after g₁) fun r σ₂ ρ₂ h₂ tk₂ hK R₂ g₂ ar₂ F₂ => h r σ₂ ρ₂ h₂ tk₂ hK R₂ (g₁.trans g₂) ar₂ F₂
            · have n1 : ∀ x p, e ≠ .UnaryOp .Not x p := fun x p q => h1 ⟨x, p, q⟩
              have n2 : ∀ o v p, e ≠ .BoolOp o v p := fun o v p q => h2 ⟨o, v, p, q⟩
              have n3 : ∀ a b c p, e ≠ .IfExp a b c p := fun a b c p q => h3 ⟨a, b, c, p, q⟩
              have n4 : ∀ a b c p, e ≠ .Compare a b c p := fun a b c p q => h4 ⟨a, b, c, p, q⟩
              refine ST.ofE n1 n2 n3 n4 (ihE _ _ _ _ _ _ ?_)
              unfold wpT at hw
              split at hw
              · exact absurd rfl (n1 _ _)
              · exact absurd rfl (n2 _ _ _)
              · exact absurd rfl (n3 _ _ _ _)
              · exact absurd rfl (n4 _ _ _ _)
              · exact hw
end
end Mine

set_option Elab.async false
set_option autoImplicit false
set_option linter.unusedVariables false
namespace Mine
open PySem PySem.Spec PySem.Calls PyProof.Rows

/-! what is dead stays dead, and the heap grows -/
structure Older (h h' : Heap) : Prop where
  size : h.objs.size ≤ h'.objs.size
  dead : ∀ b, b < h.objs.size → h.get? b = none → h'.get? b = none

theorem Older.refl {h : Heap} : Older h h := ⟨Nat.le_refl _, fun _ _ e => e⟩
theorem Older.trans {h h' h'' : Heap} (x : Older h h') (y : Older h' h'') : Older h h'' := ⟨Nat.le_trans x.size y.size, fun b hb e => y.dead b (Nat.lt_of_lt_of_le hb x.size) (x.dead b hb e)⟩
theorem Older.push {h : Heap} {o : Obj} : Older h (h.push o) := ⟨by rw [Heap.size_push]; exact Nat.le_succ _, fun b hb e => by
  unfold Heap.get? at e ⊢
  obtain ⟨objs, l⟩ := h
  show (match (objs.push o)[b]? with | some ⟨_, _, .freed, _⟩ => none | o => o) = none
  have : (objs.push o)[b]? = objs[b]? := by
    rw [Array.getElem?_push, if_neg (Nat.ne_of_lt hb)]
  rw [this]; exact e⟩
theorem Older.update {h : Heap} {a : Addr} {f : Obj → Obj} (ha : (h.get? a).isSome = true) : Older h (h.update a f) := ⟨Nat.le_of_eq (Heap.size_after_update ..).symm, fun b hb e => by
  by_cases q : a = b
  · subst q; rw [e] at ha; cases ha
  · rw [Heap.get?_update_other _ _ q]; exact e⟩

theorem runs_older {M : Model} {Γ : PySem.Ctx} {p : Pos} {t : Sem Fin} {fs : List Frame} {s s' : Shared} {e : End} (h : Runs M Γ p t fs s e s') : Older s.heap s'.heap := by
  induction h <;> first
    | exact .refl
    | assumption
    | exact Older.trans (.update (by assumption)) (by assumption)
    | exact Older.trans .push (by assumption)
    | exact Older.trans (by assumption) (by assumption)
theorem wakes_older {M : Model} {Γ : PySem.Ctx} {p : Pos} {g : Nat} {r : Resume} {s s' : Shared} {res : GenResult} (h : Wakes M Γ p g r s res s') : Older s.heap s'.heap := by
  unfold Wakes at h
  split at h
  · exact h.elim
  · split at h
    · obtain ⟨e₁, s₁, hr, _, _, rfl⟩ := h; exact (runs_older hr : Older (s.setGen g .running).heap s₁.heap)
    · rw [h.2]; exact .refl
    · rw [h.2]; exact .refl
  · obtain ⟨e₁, s₁, hr, _, _, rfl⟩ := h; exact (runs_older hr : Older (s.setGen g .running).heap s₁.heap)
  · rw [h.2]; exact .refl
  · rw [h.2]; exact .refl

theorem wp_older {α : Type} (M : Model) (Γ : PySem.Ctx) (h₀ : Heap) (t : Sem α) : ∀ (Q : α → Pos → Shared → Prop) (E : Value → Pos → Shared → Prop) (p : Pos) (s : Shared), Older h₀ s.heap → Sem.wp M Γ t Q E p s →
    Sem.wp M Γ t (fun a p' s' => Older h₀ s'.heap ∧ Q a p' s') (fun e p' s' => Older h₀ s'.heap ∧ E e p' s') p s := by
  induction t with
  | pure a => intro Q E p s hn h; exact ⟨hn, h⟩
  | raise e => intro Q E p s hn h; exact ⟨hn, h⟩
  | unsupported _ => intro Q E p s _ h; exact h
  | finish _ => intro Q E p s _ h; exact h
  | rule _ k ih => intro Q E p s hn h; exact ih () Q E p s hn h
  | «at» p' k ih => intro Q E p s hn h; exact ih () Q E p' s hn h
  | load a _ k ih => intro Q E p s hn h; obtain ⟨o, ho, h⟩ := h; exact ⟨o, ho, ih o Q E p s hn h⟩
  | update a _ f k ih => intro Q E p s hn h; exact ⟨h.1, ih () Q E p _ (hn.trans (.update h.1)) h.2⟩
  | loadIfAlive a k ih => intro Q E p s hn h; exact ih _ Q E p s hn h
  | point _ k ih => intro Q E p s hn h; exact ih () Q E p s hn h
  | register _ _ => intro Q E p s _ h; exact h
  | alloc o k ih => intro Q E p s hn h; exact ih _ Q E p _ (hn.trans .push) h
  | fresh k ih => intro Q E p s hn h; exact ih _ Q E p _ hn h
  | ask k ih => intro Q E p s hn h; exact ih _ Q E p s hn h
  | choose src m k ih => intro Q E p s hn h; exact ⟨h.1, ih _ Q E p _ hn h.2⟩
  | os q _ k ih => intro Q E p s hn h; exact ih _ Q E p _ hn h
  | call c hd _ _ k ih => intro Q E p s hn h; obtain ⟨r, s', hr, h⟩ := h; exact ⟨r, s', hr, ih r Q E p s' (hn.trans (runs_older hr)) h⟩
  | handled own k ih => intro Q E p s hn h; exact ih _ Q E p s hn h
  | genState g k ih => intro Q E p s hn h; obtain ⟨st, hs, h⟩ := h; exact ⟨st, hs, ih _ Q E p s hn h⟩
  | newGen c k ih => intro Q E p s hn h; exact ih _ Q E p _ hn h
  | resume g r _ k ih => intro Q E p s hn h; obtain ⟨res, s', hw, h⟩ := h; exact ⟨res, s', hw, ih res Q E p s' (hn.trans (wakes_older hw)) h⟩
  | yield _ _ _ _ => intro Q E p s _ h; exact h
  | stack k ih => intro Q E p s hn h; exact ih _ Q E p s hn h
  | fork _ _ => intro Q E p s _ h; exact h
  | thread k ih => intro Q E p s hn h; exact ih _ Q E p s hn h
  | await _ _ _ _ _ => intro Q E p s _ h; exact h

theorem wpAny_older {α : Type} {M : Model} {A : Around} {s : Shared} {t : Sem α} {Q : α → Shared → Prop} {E : Value → Shared → Prop}
    (h : wpAny M A t (fun a s' => Older s.heap s'.heap → Q a s') (fun e s' => Older s.heap s'.heap → E e s') s) : wpAny M A t Q E s :=
  fun Γ p hΓ => Sem.wp_mono M Γ t (fun _ _ _ x => x.2 x.1) (fun _ _ _ x => x.2 x.1) p s (wp_older M Γ s.heap t _ _ p s .refl (h Γ p hΓ))

section
variable {X : Cx} {k : Nat} {Γ : Sig} {env : Env} {sc : Kinds} {m : Loc} {σ : Store} {A : Around} {s : Shared} {ρ : Nat → Addr} {E : Value → Shared → Prop}

theorem raise_sound {c : Str} {C : Addr} {x : Str} {j : Nat} {np p1 cp p : Pos} {Q : Flow → Shared → Prop} (cx : CxOk X) (hh : A.handled = none) (R : Rep X ρ σ s.heap) (F : Frm X env sc m σ.length ρ s.heap)
    (O : OwnCls c C bmV "ValueError.__new__" X.mg X.B) (hsc : sc c = some .globalImplicit)
    (h : ∀ e h' tk, Rep X ρ σ h' → Go Nowhere σ ρ s.heap σ ρ h' → Frm X env sc m σ.length ρ h' → Flies X c env.frame s.heap.objs.size e h' → E (.ref e) { s with heap := h', toks := tk }) :
    wpAny (model X.prog X.w) A (exec (.Raise (some (.Call (.Name c np) [.Constant (.str x) j p1] [] cp)) none p) env) Q E s := by
  obtain ⟨bm, N, nm, q, bs, hdct, sn, sub, ab, col, dd, k0, k1, k2, k3, k5, mN, hC, hN, hni, TL⟩ := O.obj
  refine wpAny_older (wpAny_Raise_call_subT (C := C) (N := N) (nm := nm) (q := q) (bs := bs) (bm := bm) (hdct := hdct) (sn := sn) (sub := sub) (ab := ab) (col := col) (dd := dd) (k0 := k0) (k1 := k1) (k2 := k2) (k3 := k3) (k5 := k5) PySem.F.excBase_ValueError (TL.hasType (by decide)) hh rfl hni ?_)
  refine glob_sound cx R F hsc (v := .ref C) (by unfold Cx.val; rw [O.bound]; rfl) ⟨rfl, ?_⟩
  refine evalArgs_gen rfl (wpAny_items_cons (Calls.Constant_str (wpAny_items_nil ?_)))
  refine ⟨rfl, by rw [sizeLine_eq]; simp, R.base _ _ hC, hN.keeps R.base, TL.keeps R.base, fun h' e hm old => ?_⟩
  obtain ⟨t, he, ht, htt⟩ := hm.there
  have g : Go Nowhere σ ρ s.heap σ ρ h' := Go.ofGrow old.size hm.keeps
  refine h e h' _ (R.grow hm.keeps) g (F.go R g) ⟨⟨C, _, _, O.bound, he, rfl, ⟨rfl, rfl⟩, by simp, .inl rfl⟩, ?_⟩
  exact Nat.not_lt.mp fun hlt => by
    have := old.dead e hlt hm.new
    have he' : h'.get? e = _ := he
    rw [he'] at this; cases this

theorem excMatches_own {M : Model} {A : Around} {E : Value → Shared → Prop} {nm q : Str} {Dc N : Addr} {bs bm : List Value} {hdct : Bool} {sn : List Str} {sub : List Value} {ab : Bool} {col : Option Bool} {dd : Option Addr} {k0 k1 k2 k3 k5 : Option Value} {newId : String}
    {h : Heap} {g : Array GenState} {d : Drawn} {t : Nat} {os : OsState} {e C : Addr} {oe : Obj} {Q : Bool → Shared → Prop}
    (hD : h.get? Dc = some (excClassObj nm q Dc N bs bm hdct sn sub ab col dd k0 k1 k2 k3 k5 newId)) (he : h.get? e = some oe) (hcls : oe.cls = .ref C) (hbase : bm.contains (.type "BaseException") = true)
    (hsub : ∀ {Q : Bool → Shared → Prop}, Q true ⟨h, g, d, t, os⟩ → wpAny M A (isSubtype (.ref C) (.ref Dc)) Q E ⟨h, g, d, t, os⟩)
    (hq : Q true ⟨h, g, d, t, os⟩) : wpAny M A (excMatches (.ref e) (.ref Dc)) Q E ⟨h, g, d, t, os⟩ := by
  have hcB : (Value.ref Dc :: bm).contains (.type "BaseException") = true := by rw [List.contains_cons, hbase, Bool.or_true]
  have f := tc_notTuple
  unfold excMatches
  repeat (first | (with_reducible refine wpAny_loadPart_at he ?_; rw [hcls]) | with_reducible refine wpAny_loadPart_at hD ?_ | with_reducible refine hsub ?_ | (with_reducible refine wpAny_isSubtype_exc hD ?_; rw [hcB]) | wp_step)
  exact hq

theorem nameGoes_sound {M : Model} {x : Str} {pos : Pos} {Q : Unit → Shared → Prop} (R : Rep X ρ σ s.heap) (F : Frm X env sc m σ.length ρ s.heap) (hx : sc x = some .local)
    (h : ∀ h' tk, Rep X ρ σ h' → Go (Wr env) σ ρ s.heap σ ρ h' → Frm X env sc (drop m x) σ.length ρ h' → (∀ {v a}, Has X σ.length ρ s.heap v a → Has X σ.length ρ h' v a) → Q () { s with heap := h', toks := tk }) :
    wpAny M A (do bindName env x .none; unbindBehindTheSuite env x pos) Q E s := by
  obtain ⟨mm, hns, hm⟩ := F.ns
  refine wpAny_nameGoes_keeps (F.kinds.loc x hx) hns (by rw [F.kind]; rfl) fun h' v hn' hsb => ?_
  obtain ⟨oL, esL, epL, eL, dL, rL⟩ := hns
  have ex := Ext1.ofSame hsb
  have hn : ∀ o, s.heap.get? env.locals = some o → ¬ Still o := fun o e => by rw [eL] at e; cases e; exact Still.notNs dL
  have st := ex.still' hn
  have R' := R.but ex hn F.sepL F.newL
  have hv' : ∀ {v a}, Has X σ.length ρ s.heap v a → Has X σ.length ρ h' v a := fun q => q.mono (Nat.le_refl _) (fun _ _ => rfl) st
  have hcell : ∀ c ov, s.heap.IsCell c ov → h'.IsCell c ov := fun c ov ⟨o', e', d⟩ => ⟨o', ex.keep _ _ (fun q => by rw [q, eL] at e'; cases e'; rw [dL] at d; cases d) e', d⟩
  refine h h' _ R' ⟨ex.size, fun b o e hw _ => ⟨o.slots, ex.keep b o (fun q => hw (.inl q)) e, fun _ => rfl⟩, fun b o es n e d => ?_, Nat.le_refl _, fun _ _ => rfl, fun i h1 h2 => absurd h2 (Nat.not_lt.mpr h1)⟩ ?_ hv'
  · by_cases hb : b = env.locals
    · subst hb
      obtain ⟨o', es', ep', e', d', _⟩ := hn'
      exact ⟨o', es', ep', e', d'⟩
    · exact ⟨o, es, n, ex.keep b o hb e, d⟩
  · refine { F with ns := ⟨_, hn', ?_⟩, cells := ?_, isCells := ?_ }
    · intro y u hy hu
      unfold drop at hu
      by_cases hyx : y = x
      · rw [if_pos hyx] at hu; cases hu
      · rw [if_neg hyx] at hu
        obtain ⟨b, h1, h2⟩ := hm y u hy hu
        exact ⟨b, by rw [if_neg hyx]; exact h1, hv' h2⟩
    · intro y hy
      obtain ⟨c, ov, h1, h2, h3⟩ := F.cells y hy
      refine ⟨c, ov, h1, hcell c ov h2, fun u hu => ?_⟩
      unfold drop at hu
      by_cases hyx : y = x
      · rw [if_pos hyx] at hu; cases hu
      · rw [if_neg hyx] at hu
        obtain ⟨b, h4, h5⟩ := h3 u hu
        exact ⟨b, h4, hv' h5⟩
    · intro y c hy
      obtain ⟨ov, h1⟩ := F.isCells y c hy
      exact ⟨ov, hcell c ov h1⟩

theorem Ar.frame (ar : Ar X k A env s.heap) : ∃ L, env.frame = some L := by
  obtain ⟨f, o, h1, h2, h3⟩ := ar.stack
  obtain ⟨_, L, _, _, _, h4, _⟩ := h3 f List.mem_cons_self
  exact ⟨L, h2 ▸ h4⟩

theorem base_notD {D : Addr → Prop} {sz : Nat} {h : Heap} (hD : ∀ b, D b → sz ≤ b) (hb : ∀ b o, X.B.get? b = some o → b < sz) : ∀ b o, X.B.get? b = some o → ¬ D b :=
  fun b o e q => absurd (hb b o e) (Nat.not_lt.mpr (hD b q))

theorem try_sound {K : OutS → Prop} {n : Nat} {x D : Str} {body hb : List Stmt} {b₀ : Stmt} {dp hp p : Pos} (cx : CxOk X) (ok : SigOk X k Γ) (hroom : 100 ≤ k) (hx : sc x = some .local) (hD : sc D = some .globalImplicit) (hDe : Γ.exc D = true)
    (hbody : SS X k env sc (execs body env) m σ (tryK K fun c m σ => (Γ.exc c = true ∧ kinB c D = true) ∧ wpSs (wpS Γ.hand n sc) (b₀ :: hb) (upd m x (.exc c)) σ (asK x K)))
    (hhand : ∀ c m σ, wpSs (wpS Γ.hand n sc) (b₀ :: hb) (upd m x (.exc c)) σ (asK x K) → SS X 99 env sc (execs (b₀ :: hb) env) (upd m x (.exc c)) σ (asK x K)) :
    SS X k env sc (exec (.Try body [.ExceptHandler (some (.Name D dp)) (some x) (b₀ :: hb) hp] [] [] p) env) m σ K := by
  intro A s ρ Q E ar R F hn hr er
  refine wpAny_Try_except (hbody A s ρ _ _ ar R F (fun m' σ' ρ' h' tk hK R' g' F' => wpAny_execs_nil (hn m' σ' ρ' h' tk hK R' g' F')) (fun v σ' ρ' a h' tk hK R' g' F' hv => hr v σ' ρ' a h' tk hK R' g' F' hv) fun c m₁ σ₁ ρ₁ e h₁ tk₁ hK R₁ g₁ F₁ fl => ?_)
  obtain ⟨⟨hce, hkin⟩, hK⟩ := hK
  obtain ⟨L, hfr⟩ := ar.frame
  have ar₁ := ar.go g₁
  have hlt : ∀ b o, X.B.get? b = some o → b < s.heap.objs.size := fun b o q => Heap.lt_size (R.base b o q)
  refine note_sound (s := { s with heap := h₁, toks := tk₁ }) ar₁ hfr fl g₁.size fun D₂ h₂ dok₂ hD₂ f₂ x₂ => ?_
  refine flight_sound (s := { s with heap := h₂, toks := tk₁ }) (fr := none) x₂ rfl fun D₃ h₃ dok₃ hD₃ f₃ x₃ => ?_
  have R₂ := R₁.fl dok₂ f₂ (base_notD (h := h₁) hD₂ hlt)
  have R₃ := R₂.fl dok₃ f₃ (base_notD (h := h₁) hD₃ hlt)
  have F₃ := (F₁.fl dok₂ f₂).fl dok₃ f₃
  have ar₃ := (ar₁.fl dok₂ f₂).fl dok₃ f₃
  have g₃ := (g₁.fl f₂ hD₂).fl f₃ hD₃
  obtain ⟨C, Dc, hmc, hmD, sees⟩ := ok.kin c D hce hDe
  rw [hkin] at sees
  obtain ⟨Dc', O⟩ := ok.exc D hDe
  have hDD : Dc' = Dc := by have := O.bound; rw [hmD] at this; cases this; rfl
  subst hDD
  obtain ⟨bm, N, nm, q, bs, hdct, sn, sub, ab, col, dd, k0, k1, k2, k3, k5, mN, hDo, hN, hni, TL⟩ := O.obj
  refine wpAny_handleBy_cons (codeAny_handlers_test ?_) (by intro q; cases q)
  refine glob_sound (s := { s with heap := h₃, toks := tk₁ }) (v := .ref Dc') cx R₃ F₃ hD (by unfold Cx.val; rw [hmD]; rfl) ?_
  obtain ⟨C', oe, vs, T, oT, ts, hm', he, hcls, hde, hrest⟩ := x₃.ex
  have hCC : C' = C := by rw [hmc] at hm'; cases hm'; rfl
  subst hCC
  refine excMatches_own (R₃.base _ _ hDo) he hcls (TL.hasType (by decide)) (fun hq => sees _ _ _ _ _ R₃.base hq) ?_
  refine codeAny_handlers_suite_as ?_
  refine flight_sound (s := { s with heap := h₃, toks := tk₁ }) (fr := none) x₃ rfl fun D₄ h₄ dok₄ hD₄ f₄ x₄ => ?_
  have R₄ := R₃.fl dok₄ f₄ (base_notD (h := h₁) hD₄ hlt)
  have F₄ := F₃.fl dok₄ f₄
  have ar₄ := ar₃.fl dok₄ f₄
  have g₄ := g₃.fl f₄ hD₄
  obtain ⟨C₄, oe₄, vs₄, T₄, oT₄, ts₄, hm₄, he₄, hcls₄, hde₄, hrest₄⟩ := x₄.ex
  refine storeLocal_sound (s := { s with heap := h₄, toks := tk₁ }) R₄ F₄ hx (.exc hm₄ he₄ hcls₄ hde₄.1 hde₄.2) fun h₅ tk₅ R₅ g₅ F₅ _ => ?_
  have g₅' : Go (Wr env) σ₁ ρ₁ h₄ σ₁ ρ₁ h₅ := g₅.weaken fun b _ _ q => .inl q
  have ar₅ := ar₄.go g₅
  have arH : Ar X 99 (A.mark (some (.ref e))) env h₅ := ⟨fun q => absurd q (by decide), (by have := ar.depth; show A.depth + 99 < _; omega), (by have := ar.units; show A.units + 20 * 99 + 200 < _; omega), ar₅.stack⟩
  refine hhand c m₁ σ₁ hK (A.mark (some (.ref e))) { s with heap := h₅, toks := tk₅ } ρ₁ _ _ arH R₅ F₅ (fun m₆ σ₆ ρ₆ h₆ tk₆ hK₆ R₆ g₆ F₆ => ?_) (fun v σ₆ ρ₆ a h₆ tk₆ hK₆ R₆ g₆ F₆ hv => ?_) fun _ _ _ _ _ _ _ hf => hf.elim
  · refine nameGoes_sound (s := { s with heap := h₆, toks := tk₆ }) R₆ F₆ hx fun h₇ tk₇ R₇ g₇ F₇ _ => ?_
    exact hn _ σ₆ ρ₆ h₇ tk₇ hK₆ R₇ ((g₄.trans g₅').trans (g₆.trans g₇)) F₇
  · obtain ⟨m₆, F₆⟩ := F₆
    refine nameGoes_sound (s := { s with heap := h₆, toks := tk₆ }) R₆ F₆ hx fun h₇ tk₇ R₇ g₇ F₇ hv' => ?_
    exact hr v σ₆ ρ₆ a h₇ tk₇ hK₆ R₇ ((g₄.trans g₅').trans (g₆.trans g₇)) ⟨_, F₇⟩ (hv' hv)
end
end Mine

set_option Elab.async false
set_option autoImplicit false
set_option linter.unusedVariables false
namespace Mine
open PySem PySem.Spec PySem.Calls PyProof.Rows

section
variable {X : Cx} {k : Nat} {Γ : Sig} {env : Env} {sc : Kinds} {m : Loc} {σ : Store} {K : OutS → Prop} {A : Around} {s : Shared} {ρ : Nat → Addr} {E : Value → Shared → Prop} {Q : Flow → Shared → Prop}

noncomputable def OkN (X : Cx) (env : Env) (sc : Kinds) (σ : Store) (ρ : Nat → Addr) (s : Shared) (K : OutS → Prop) (Q : Flow → Shared → Prop) : Prop :=
  ∀ m' σ' ρ' h' tk, K (.next m' σ') → Rep X ρ' σ' h' → Go (Wr env) σ ρ s.heap σ' ρ' h' → Frm X env sc m' σ'.length ρ' h' → Q .next { s with heap := h', toks := tk }
noncomputable def OkR (X : Cx) (env : Env) (sc : Kinds) (σ : Store) (ρ : Nat → Addr) (s : Shared) (K : OutS → Prop) (Q : Flow → Shared → Prop) : Prop :=
  ∀ v σ' ρ' a h' tk, K (.ret v σ') → Rep X ρ' σ' h' → Go (Wr env) σ ρ s.heap σ' ρ' h' → (∃ m', Frm X env sc m' σ'.length ρ' h') → Has X σ'.length ρ' h' v a → Q (.ret a) { s with heap := h', toks := tk }
noncomputable def ErS (X : Cx) (env : Env) (sc : Kinds) (σ : Store) (ρ : Nat → Addr) (s : Shared) (K : OutS → Prop) (E : Value → Shared → Prop) : Prop :=
  ∀ c m' σ' ρ' e h' tk, K (.exn c m' σ') → Rep X ρ' σ' h' → Go (Wr env) σ ρ s.heap σ' ρ' h' → Frm X env sc m' σ'.length ρ' h' → Flies X c env.frame s.heap.objs.size e h' → E (.ref e) { s with heap := h', toks := tk }

theorem OkN.after {σ₁ : Store} {ρ₁ : Nat → Addr} {h₁ : Heap} {tk : Nat} (x : OkN X env sc σ ρ s K Q) (g : Go (Wr env) σ ρ s.heap σ₁ ρ₁ h₁) : OkN X env sc σ₁ ρ₁ { s with heap := h₁, toks := tk } K Q :=
  fun m' σ' ρ' h' tk' hK R' g' F' => x m' σ' ρ' h' tk' hK R' (g.trans g') F'
theorem OkR.after {σ₁ : Store} {ρ₁ : Nat → Addr} {h₁ : Heap} {tk : Nat} (x : OkR X env sc σ ρ s K Q) (g : Go (Wr env) σ ρ s.heap σ₁ ρ₁ h₁) : OkR X env sc σ₁ ρ₁ { s with heap := h₁, toks := tk } K Q :=
  fun v σ' ρ' a h' tk' hK R' g' hF hv => x v σ' ρ' a h' tk' hK R' (g.trans g') hF hv
theorem ErS.after {σ₁ : Store} {ρ₁ : Nat → Addr} {h₁ : Heap} {tk : Nat} (x : ErS X env sc σ ρ s K E) (g : Go (Wr env) σ ρ s.heap σ₁ ρ₁ h₁) : ErS X env sc σ₁ ρ₁ { s with heap := h₁, toks := tk } K E :=
  fun c m' σ' ρ' e h' tk' hK R' g' F' fl => x c m' σ' ρ' e h' tk' hK R' (g.trans g') F' (fl.sz g.size)
theorem Go.up {σ₁ : Store} {ρ₁ : Nat → Addr} {h₁ h : Heap} {W : Addr → Prop} (g : Go Nowhere σ ρ h σ₁ ρ₁ h₁) : Go W σ ρ h σ₁ ρ₁ h₁ := g.weaken fun _ _ _ q => q.elim

/-- an expression's exception is the statement's -/
theorem ErS.lift (x : ErS X env sc σ ρ s K E) (R : Rep X ρ σ s.heap) (F : Frm X env sc m σ.length ρ s.heap) : ErE X env.frame σ ρ s (liftS K m) E :=
  fun c σ' ρ' e h' tk' hK R' g' fl => x c m σ' ρ' e h' tk' hK R' g'.up (F.go R g') fl

theorem SS.seq {sv : Sv} (hsv : ∀ st m σ K, sv st m σ K → SS X k env sc (exec st env) m σ K) : ∀ (sts : List Stmt) (m : Loc) (σ : Store) (K : OutS → Prop), wpSs sv sts m σ K → SS X k env sc (execs sts env) m σ K
  | [], m, σ, K, hw => fun A s ρ Q E ar R F hn hr er => wpAny_execs_nil (hn m σ ρ s.heap s.toks hw R (.refl ..) F)
  | st :: r, m, σ, K, hw => fun A s ρ Q E ar R F hn hr er => by
    unfold wpSs at hw
    refine wpAny_execs_cons (hsv _ _ _ _ hw A s ρ _ E ar R F (fun m₁ σ₁ ρ₁ h₁ tk hf R₁ g₁ F₁ => ?_) (fun v σ₁ ρ₁ a h₁ tk hf R₁ g₁ hF hv => hr v σ₁ ρ₁ a h₁ tk hf R₁ g₁ hF hv) er)
    exact SS.seq hsv r m₁ σ₁ K hf A { s with heap := h₁, toks := tk } ρ₁ Q E (ar.go g₁) R₁ F₁ (OkN.after (σ := σ) (ρ := ρ) (s := s) hn g₁) (OkR.after (σ := σ) (ρ := ρ) (s := s) hr g₁) (ErS.after (σ := σ) (ρ := ρ) (s := s) er g₁)

theorem swaps_no {v : Expr} {t : Option Expr} {l : Nat} (h : (∀ a b c d, v ≠ .ListComp a b c d) ∧ (∀ a b c d, v ≠ .SetComp a b c d) ∧ (∀ a b c d e, v ≠ .DictComp a b c d e)) : swapsWith v t l env = pure false := by
  unfold swapsWith
  cases v <;> first | rfl | exact absurd rfl (h.1 _ _ _ _) | exact absurd rfl (h.2.1 _ _ _ _) | exact absurd rfl (h.2.2 _ _ _ _ _)

theorem comp_shape {v : Expr} {n : Nat} {K : OutE → Prop} (hw : wpE Γ n sc v m σ K) : (∀ a b c d, v ≠ .ListComp a b c d) ∧ (∀ a b c d, v ≠ .SetComp a b c d) ∧ (∀ a b c d e, v ≠ .DictComp a b c d e) := by
  cases n with
  | zero => simp only [wpE] at hw
  | succ n => refine ⟨?_, ?_, ?_⟩ <;> (intros; rintro rfl; simp only [wpE] at hw)

theorem assign_sound (cx : CxOk X) (ok : SigOk X k Γ) {n : Nat} {x : Str} {p p' : Pos} {v : Expr} (hb : bindable sc x) (hw : wpE Γ n sc v m σ (thenE (liftS K m) fun v σ => K (.next (upd m x v) σ))) :
    SS X k env sc (exec (.Assign [.Name x p'] v p) env) m σ K := by
  intro A s ρ Q E ar R F hn hr er
  have er' : ErE X env.frame σ ρ s (liftS K m) E := ErS.lift (sc := sc) er R F
  have plain : swapsWith v (some (.Name x p')) p.line env = pure false → wpAny (model X.prog X.w) A (exec (.Assign [.Name x p'] v p) env) Q E s := by
    intro hsw
    refine wpAny_Assign_Name (SE.andThen ((sound cx ok n).1 env sc v m σ _ hw) ar R F er' fun w σ₁ ρ₁ a h₁ tk hf R₁ g₁ hv ar₁ F₁ => ?_) hsw
    exact store_sound (s := { s with heap := h₁, toks := tk }) R₁ F₁ hb hv fun h₂ tk₂ R₂ g₂ F₂ => hn _ _ _ _ _ hf R₂ (g₁.up.trans g₂) F₂
  exact plain (swaps_no (comp_shape hw))

theorem soundS (cx : CxOk X) : ∀ n {k : Nat} {Γ : Sig}, SigOk X k Γ → ∀ env sc st m σ K, wpS Γ n sc st m σ K → SS X k env sc (exec st env) m σ K := by
  intro n
  induction n with
  | zero => intro k Γ ok env sc st m σ K hw; unfold wpS at hw; exact hw.elim
  | succ n ih =>
    intro k Γ ok env sc st m σ K hw
    have ihS : ∀ sts m σ K, wpSs (wpS Γ n sc) sts m σ K → SS X k env sc (execs sts env) m σ K := SS.seq (fun st m σ K => ih ok env sc st m σ K)
    cases st with
    | Pass p => simp only [wpS] at hw; exact fun A s ρ Q E ar R F hn hr er => wpAny_Pass (hn m σ ρ s.heap s.toks hw R (.refl ..) F)
    | Return v p =>
      simp only [wpS] at hw
      cases v with
      | none => exact fun A s ρ Q E ar R F hn hr er => wpAny_Return_none (hr _ σ ρ _ s.heap s.toks hw R (.refl ..) ⟨m, F⟩ .ofNone)
      | some e =>
        intro A s ρ Q E ar R F hn hr er
        refine wpAny_Return_some ((sound cx ok n).1 env sc e m σ _ hw A s ρ _ E ar R F (fun v σ₁ ρ₁ a h₁ tk hf R₁ g₁ hv => hr v σ₁ ρ₁ a h₁ tk hf R₁ g₁.up ⟨m, F.go R g₁⟩ hv) (ErS.lift (sc := sc) er R F))
    | Assign ts v p =>
      simp only [wpS] at hw
      split at hw
      · exact assign_sound cx ok hw.1 hw.2
      · exact hw.elim
    | If t b e p =>
      simp only [wpS] at hw
      intro A s ρ Q E ar R F hn hr er
      refine wpAny_If ((sound cx ok n).2 env sc t m σ _ _ hw A s ρ _ E ar R F (fun c σ₁ ρ₁ h₁ tk hf R₁ g₁ ar₁ F₁ => ?_) (ErS.lift (sc := sc) er R F))
      cases c with
      | true => exact ihS _ _ _ _ (hf.1 rfl) A { s with heap := h₁, toks := tk } ρ₁ Q E ar₁ R₁ F₁ (OkN.after (σ := σ) (ρ := ρ) (s := s) hn g₁.up) (OkR.after (σ := σ) (ρ := ρ) (s := s) hr g₁.up) (ErS.after (σ := σ) (ρ := ρ) (s := s) er g₁.up)
      | false => exact ihS _ _ _ _ (hf.2 rfl) A { s with heap := h₁, toks := tk } ρ₁ Q E ar₁ R₁ F₁ (OkN.after (σ := σ) (ρ := ρ) (s := s) hn g₁.up) (OkR.after (σ := σ) (ρ := ρ) (s := s) hr g₁.up) (ErS.after (σ := σ) (ρ := ρ) (s := s) er g₁.up)
    | Raise e cause p =>
      simp only [wpS] at hw
      split at hw
      · obtain ⟨hsc, hcalm, hex, hK⟩ := hw
        intro A s ρ Q E ar R F hn hr er
        obtain ⟨C, O⟩ := ok.exc _ hex
        exact raise_sound cx (ar.handled (ok.calm hcalm)) R F O hsc fun e h' tk R' g' F' fl => er _ m σ ρ e h' tk hK R' g'.up F' fl
      · exact hw.elim
    | Try body hs orelse fin p =>
      simp only [wpS] at hw
      split at hw
      · obtain ⟨⟨hx, hD, hDe, hcalm⟩, hw⟩ := hw
        exact try_sound cx ok (ok.calm hcalm) hx hD hDe (ihS _ _ _ _ hw) fun c m σ h => SS.seq (fun st m σ K => ih ok.handler env sc st m σ K) _ _ _ _ h
      · exact hw.elim
    | _ => simp only [wpS] at hw
end
end Mine

set_option Elab.async false
set_option autoImplicit false
set_option linter.unusedVariables false
namespace Mine
open PySem PySem.Spec PySem.Calls PyProof.Rows

theorem zip_lookup {names : List Str} {vals : List Value} (hlen : vals.length = names.length) {n : Str} (hn : n ∈ names) : ((names.zip vals).lookup n).isSome = true := by
  induction names generalizing vals with
  | nil => simp at hn
  | cons a r ih =>
    cases vals with
    | nil => simp at hlen
    | cons v vs =>
      simp only [List.zip_cons_cons, List.lookup_cons]
      cases hb : n == a with
      | true => rfl
      | false =>
        have : n ∈ r := by
          rcases List.mem_cons.mp hn with rfl | h
          · simp at hb
          · exact h
        simpa using ih (by simpa using hlen) this

theorem zip_filterMap {names : List Str} (hnd : names.Nodup) {vals : List Value} (hlen : vals.length = names.length) (pre : List (Str × Value)) (hpre : ∀ n ∈ names, pre.lookup n = none) :
    names.filterMap (fun n => ((pre ++ names.zip vals).lookup n).map (n, ·)) = names.zip vals := by
  induction names generalizing vals pre with
  | nil => simp
  | cons a r ih =>
    cases vals with
    | nil => simp at hlen
    | cons v vs =>
      obtain ⟨h1, h2⟩ := List.nodup_cons.mp hnd
      have e1 : (pre ++ (a, v) :: r.zip vs).lookup a = some v := by
        rw [List.lookup_append, hpre a List.mem_cons_self]
        simp
      simp only [List.zip_cons_cons, List.filterMap_cons, e1, Option.map_some]
      congr 1
      have := ih h2 (vals := vs) (by simpa using hlen) (pre ++ [(a, v)]) (fun n hn => by
        rw [List.lookup_append, hpre n (List.mem_cons_of_mem _ hn)]
        have : n ≠ a := fun q => h1 (q ▸ hn)
        have hb : (n == a) = false := by simpa using this
        simp [List.lookup_cons, hb])
      simpa using this

theorem bind_plain {fd : FuncData} {names : List Str} {vals : List Value} (h1 : fd.params.posonlyargs = []) (h2 : fd.params.args.map (·.arg) = names) (h3 : fd.params.vararg = none) (h4 : fd.params.kwonlyargs = []) (h5 : fd.params.kwarg = none)
    (h6 : fd.defaults = .none) (hnd : names.Nodup) (hlen : vals.length = names.length) : bindArgs fd ⟨vals, []⟩ = pure (names.zip vals) := by
  have e0 : seqItems? Value.none = pure none := rfl
  have em : (names.filter fun n => ((names.zip vals).lookup n).isNone) = [] := by
    rw [List.filter_eq_nil_iff]
    intro n hn
    have := zip_lookup hlen hn
    simp only [Option.isNone_iff_eq_none]
    intro q
    rw [q] at this; cases this
  have ef := zip_filterMap hnd hlen [] (by simp)
  simp only [List.nil_append] at ef
  unfold bindArgs
  simp only [h1, h2, h3, h4, h5, h6, e0, List.map_nil, List.nil_append, List.append_nil, List.forIn_nil, pure_bind, Option.getD_none, List.length_nil, Nat.zero_sub, List.drop_nil, Nat.sub_zero, List.take_length, em, List.isEmpty_nil,
    Bool.not_true, Bool.false_eq_true, if_false, List.drop_length, List.zip_nil_left, ef, Option.isNone_none, Bool.and_true, gt_iff_lt, hlen, Nat.lt_irrefl, decide_false]

/-! forgetting what a call has made and dropped; names of cells anew -/
noncomputable def RefLt (n : Nat) : V → Prop
  | .ref i => i < n
  | .zip i j => i < n ∧ j < n
  | _ => True

noncomputable def RenV (π : Nat → Nat) (n : Nat) : V → V → Prop
  | .ref i, w => i < n ∧ w = .ref (π i)
  | .zip _ _, _ => False
  | v, w => w = v

inductive RenAll (π : Nat → Nat) (n : Nat) : List V → List V → Prop
  | nil : RenAll π n [] []
  | cons {v w vs ws} : RenV π n v w → RenAll π n vs ws → RenAll π n (v :: vs) (w :: ws)

noncomputable def RenC (π : Nat → Nat) (n : Nat) : Cell → Cell → Prop
  | .lst xs, .lst ys => RenAll π n xs ys
  | .dct, .dct => True
  | _, _ => False

structure Emb (σ σ₁ σ' : Store) (v₁ v : V) (π : Nat → Nat) : Prop where
  old : ∀ i, i < σ.length → π i = i
  len : σ.length ≤ σ'.length
  lt : ∀ i, i < σ'.length → π i < σ₁.length
  inj : ∀ i j, i < σ'.length → j < σ'.length → π i = π j → i = j
  cell : ∀ i, i < σ'.length → (i < σ.length ∧ σ'[i]? = σ[i]? ∧ σ₁[i]? = σ[i]?) ∨ (∃ c₁ c', σ₁[π i]? = some c₁ ∧ σ'[i]? = some c' ∧ RenC π σ'.length c' c₁)
  val : RenV π σ'.length v v₁

section
variable {X : Cx} {σ σ₁ σ' : Store} {ρ ρ₁ : Nat → Addr} {h h₁ : Heap} {v₁ v : V} {π : Nat → Nat} {a : Value}

theorem Has.bound {n : Nat} (x : Has X n ρ h v a) : RefLt n v := by
  cases x <;> first | exact trivial | assumption
theorem HasAll.bound {n : Nat} {vs : List V} {as : List Value} (x : HasAll X n ρ h vs as) : ∀ v ∈ vs, RefLt n v := by
  induction x with
  | nil => intro v hv; simp at hv
  | cons h1 _ ih =>
    intro v hv
    rcases List.mem_cons.mp hv with rfl | hv
    · exact h1.bound
    · exact ih v hv
theorem Has.rebase {n₀ n₁ n' : Nat} {ρ' : Nat → Addr} (x : Has X n₁ ρ₁ h v a) (hb : RefLt n₀ v) (hn : n₀ ≤ n') (hρ : ∀ i, i < n₀ → ρ' i = ρ₁ i) : Has X n' ρ' h v a := by
  cases x with
  | d r => exact .d r
  | ref hi => rw [← hρ _ hb]; exact .ref (Nat.lt_of_lt_of_le hb hn)
  | exc h1 h2 h3 h4 h5 => exact .exc h1 h2 h3 h4 h5
  | glob h1 => exact .glob h1
  | rng h1 h2 => exact .rng h1 h2
theorem HasAll.rebase {n₀ n₁ n' : Nat} {ρ' : Nat → Addr} {vs : List V} {as : List Value} (x : HasAll X n₁ ρ₁ h vs as) (hb : ∀ v ∈ vs, RefLt n₀ v) (hn : n₀ ≤ n') (hρ : ∀ i, i < n₀ → ρ' i = ρ₁ i) : HasAll X n' ρ' h vs as := by
  induction x with
  | nil => exact .nil
  | cons h1 _ ih => exact .cons (h1.rebase (hb _ List.mem_cons_self) hn hρ) (ih fun v hv => hb v (List.mem_cons_of_mem _ hv))
theorem Has.ren {n₁ n' : Nat} (x : Has X n₁ ρ₁ h v₁ a) (r : RenV π n' v v₁) : Has X n' (fun i => ρ₁ (π i)) h v a := by
  cases v with
  | ref i =>
    obtain ⟨hi, rfl⟩ := r
    cases x with
    | ref _ => exact .ref (ρ := fun i => ρ₁ (π i)) hi
  | zip i j => exact r.elim
  | d y => cases (r : v₁ = .d y); exact .d x.d_inv
  | exc c => cases (r : v₁ = .exc c); cases x with | exc h1 h2 h3 h4 h5 => exact .exc h1 h2 h3 h4 h5
  | glob c => cases (r : v₁ = .glob c); cases x with | glob h1 => exact .glob h1
  | rng lo hi => cases (r : v₁ = .rng lo hi); cases x with | rng h1 h2 => exact .rng h1 h2
theorem HasAll.ren {n₁ n' : Nat} {vs ws : List V} {as : List Value} (r : RenAll π n' vs ws) (x : HasAll X n₁ ρ₁ h ws as) : HasAll X n' (fun i => ρ₁ (π i)) h vs as := by
  induction r generalizing as with
  | nil => cases x; exact .nil
  | cons h1 _ ih => cases x with | cons x1 x2 => exact .cons (x1.ren h1) (ih x2)

theorem Emb.rep {W : Addr → Prop} (e : Emb σ σ₁ σ' v₁ v π) (R : Rep X ρ σ h) (R₁ : Rep X ρ₁ σ₁ h₁) (g : Go W σ ρ h σ₁ ρ₁ h₁) (hv : Has X σ₁.length ρ₁ h₁ v₁ a) :
    Rep X (fun i => ρ₁ (π i)) σ' h₁ ∧ Go W σ ρ h σ' (fun i => ρ₁ (π i)) h₁ ∧ Has X σ'.length (fun i => ρ₁ (π i)) h₁ v a := by
  have hge : ∀ i, σ.length ≤ i → i < σ'.length → σ.length ≤ π i := fun i h1 h2 => by
    by_cases hlt : π i < σ.length
    · have := e.inj (π i) i (Nat.lt_of_lt_of_le hlt e.len) h2 (e.old _ hlt)
      omega
    · omega
  refine ⟨⟨R₁.base, ?_, ?_, ?_⟩, ⟨g.size, g.keep, g.dicts, e.len, ?_, ?_⟩, hv.ren e.val⟩
  · intro i c hc
    have hi := (List.getElem?_eq_some_iff.mp hc).1
    rcases e.cell i hi with ⟨h1, h2, h3⟩ | ⟨c₁, c', h1, h2, h3⟩
    · rw [hc] at h2
      rw [← h2] at h3
      obtain ⟨oc, its, hp, sh, ha⟩ := R₁.cell i c h3
      obtain ⟨_, its0, _, _, ha0⟩ := R.cell i c h2.symm
      show CellAt X σ'.length (fun i => ρ₁ (π i)) h₁ (ρ₁ (π i)) c
      rw [e.old i h1]
      exact ⟨oc, its, hp, sh, ha.rebase ha0.bound e.len fun j hj => by show ρ₁ (π j) = ρ₁ j; rw [e.old j hj]⟩
    · rw [hc] at h2; cases h2
      obtain ⟨oc, its, hp, sh, ha⟩ := R₁.cell (π i) c₁ h1
      cases c <;> cases c₁ <;> first | exact h3.elim | exact ⟨oc, its, hp, sh, HasAll.ren h3 ha⟩ | exact ⟨oc, its, hp, sh, by cases ha; exact .nil⟩
  · intro i c hc ho
    have hi := (List.getElem?_eq_some_iff.mp hc).1
    rcases e.cell i hi with ⟨h1, h2, h3⟩ | ⟨c₁, c', h1, h2, h3⟩
    · rw [hc] at h2
      rw [← h2] at h3
      show X.B.get? (ρ₁ (π i)) = none
      rw [e.old i h1]
      exact R₁.own i c h3 ho
    · rw [hc] at h2; cases h2
      refine R₁.own (π i) c₁ h1 ?_
      cases c <;> cases c₁ <;> first | exact h3.elim | exact ho
  · intro i j hi hj q
    exact e.inj i j hi hj (R₁.inj _ _ (e.lt i hi) (e.lt j hj) q)
  · intro i hi
    show ρ₁ (π i) = ρ i
    rw [e.old i hi]; exact g.ext i hi
  · intro i h1 h2
    exact g.new _ (hge i h1 h2) (e.lt i h2)

theorem Emb.pure {τ : Store} {x : PyData} : Emb σ (σ ++ τ) σ (.d x) (.d x) id where
  old := fun _ _ => rfl
  len := Nat.le_refl _
  lt := fun i hi => by simp only [List.length_append, id]; omega
  inj := fun _ _ _ _ q => q
  cell := fun i hi => .inl ⟨hi, rfl, List.getElem?_append_left hi⟩
  val := rfl

theorem renAll_flat {n : Nat} : ∀ {xs : List V}, (∀ v ∈ xs, ∃ x, v = .d x) → RenAll π n xs xs
  | [], _ => .nil
  | v :: r, h => by
    obtain ⟨x, rfl⟩ := h v List.mem_cons_self
    exact .cons rfl (renAll_flat fun w hw => h w (List.mem_cons_of_mem _ hw))

theorem Emb.newCell {τ : Store} {c : Cell} {j : Nat} (hj : τ[j]? = some c) (hf : RenC (fun i => if i = σ.length then σ.length + j else i) (σ ++ [c]).length c c) :
    Emb σ (σ ++ τ) (σ ++ [c]) (.ref (σ.length + j)) (.ref σ.length) (fun i => if i = σ.length then σ.length + j else i) where
  old := fun i hi => if_neg (Nat.ne_of_lt hi)
  len := by simp
  lt := fun i hi => by
    have := (List.getElem?_eq_some_iff.mp hj).1
    simp only [List.length_append, List.length_cons, List.length_nil] at hi ⊢
    split <;> omega
  inj := fun i k hi hk q => by
    simp only [List.length_append, List.length_cons, List.length_nil] at hi hk
    by_cases h1 : i = σ.length <;> by_cases h2 : k = σ.length <;> simp only [h1, h2, if_true, if_false] at q <;> omega
  cell := fun i hi => by
    simp only [List.length_append, List.length_cons, List.length_nil] at hi
    by_cases h1 : i < σ.length
    · exact .inl ⟨h1, List.getElem?_append_left h1, List.getElem?_append_left h1⟩
    · have : i = σ.length := by omega
      subst this
      refine .inr ⟨c, c, ?_, by simp, hf⟩
      rw [if_pos rfl, List.getElem?_append_right (by omega)]
      simpa using hj
  val := ⟨by simp, by simp⟩
theorem Emb.newList {τ : Store} {xs : List V} {j : Nat} (hj : τ[j]? = some (.lst xs)) (hf : ∀ v ∈ xs, ∃ x, v = .d x) :
    Emb σ (σ ++ τ) (σ ++ [.lst xs]) (.ref (σ.length + j)) (.ref σ.length) (fun i => if i = σ.length then σ.length + j else i) := .newCell hj (renAll_flat hf)
end
end Mine

set_option Elab.async false
set_option autoImplicit false
set_option linter.unusedVariables false
namespace Mine
open PySem PySem.Spec PySem.Calls PyProof.Rows

/-- a def of the text, as the top has left it -/
structure IsFn (X : Cx) (f : Str) (names : List Str) (body : List Stmt) (scope : Scope) : Prop where
  fn : ∃ a o pm code doc params, X.mg f = some (.ref a) ∧ X.B.get? a = some o ∧ o.data = .func (docDef f params body scope pm code doc) ∧ X.B.CodeRec code f ∧
    params.posonlyargs = [] ∧ params.args.map (·.arg) = names ∧ params.vararg = none ∧ params.kwonlyargs = [] ∧ params.kwarg = none

noncomputable def fnOkB (names : List Str) (scope : Scope) : Bool :=
  scope.kind == .function && !scope.isGenerator && !scope.isCoroutine && names.all (fun n => scope.names.lookup n == some .local || scope.names.lookup n == some .cell) &&
    scope.names.all (fun y => y.2 != .free) && (scope.names.lookup ("__debug__" : Str)).isNone && (scope.names.lookup ("__classdict__" : Str)).isNone && decide names.Nodup

structure FnOk (names : List Str) (scope : Scope) : Prop where
  kind : scope.kind = .function
  gen : scope.isGenerator = false
  cor : scope.isCoroutine = false
  params : ∀ n ∈ names, scope.names.lookup n = some .local ∨ scope.names.lookup n = some .cell
  nofree : ∀ y ∈ scope.names, y.2 ≠ .free
  debug : scope.names.lookup ("__debug__" : Str) = none
  classdict : scope.names.lookup ("__classdict__" : Str) = none
  nodup : names.Nodup

theorem fnOk_of {names : List Str} {scope : Scope} (h : fnOkB names scope = true) : FnOk names scope := by
  unfold fnOkB at h
  simp only [Bool.and_eq_true, beq_iff_eq, List.all_eq_true, bne_iff_ne, ne_eq, Bool.or_eq_true, Option.isNone_iff_eq_none, Bool.not_eq_true', decide_eq_true_eq] at h
  obtain ⟨⟨⟨⟨⟨⟨⟨h1, h2⟩, h3⟩, h4⟩, h5⟩, h6⟩, h7⟩, h8⟩ := h
  exact ⟨h1, h2, h3, h4, h5, h6, h7, h8⟩

theorem cellsFrom_isSome {x : Str} : ∀ (names : List (Str × NameKind)) (n : Nat) (acc : List (Str × Addr)), names.lookup x = some .cell ∨ (acc.lookup x).isSome = true → ((cellsFrom n names acc).lookup x).isSome = true
  | [], _, _, h => h.elim (fun e => by simp at e) id
  | (y, k) :: r, n, acc, h => by
    unfold cellsFrom
    by_cases hk : (k == .cell) = true
    · rw [if_pos hk]
      refine cellsFrom_isSome r (n + 1) ((y, n) :: acc) ?_
      by_cases hy : (x == y) = true
      · exact .inr (by rw [List.lookup_cons, hy]; rfl)
      · refine h.imp (fun e => ?_) fun e => ?_
        · rw [List.lookup_cons] at e; simpa only [hy] using e
        · rw [List.lookup_cons]; simpa only [hy] using e
    · rw [if_neg hk]
      refine cellsFrom_isSome r n acc ?_
      by_cases hy : (x == y) = true
      · refine .inr (h.elim (fun e => ?_) id)
        rw [List.lookup_cons, hy] at e
        exact absurd (by rw [Option.some.inj e]; rfl) hk
      · refine h.imp (fun e => ?_) id
        rw [List.lookup_cons] at e; simpa only [hy] using e

section
variable {kd : Str → Option NameKind}
theorem bindL_other {x : Str} : ∀ (names : List Str) (vals : List Value) (m : Str → Option Value), x ∉ names → bindL kd (names.zip vals) m x = m x
  | [], vals, m, _ => by simp [bindL]
  | a :: r, [], m, _ => by simp [bindL]
  | a :: r, v :: vs, m, h => by
    simp only [List.zip_cons_cons, bindL]
    rw [bindL_other r vs _ fun q => h (List.mem_cons_of_mem _ q)]
    split
    · exact if_neg fun q : x = a => h (q ▸ List.mem_cons_self)
    · rfl
theorem bindC_other {x : Str} : ∀ (names : List Str) (vals : List Value) (m : Str → Option Value), x ∉ names → bindC kd (names.zip vals) m x = m x
  | [], vals, m, _ => by simp [bindC]
  | a :: r, [], m, _ => by simp [bindC]
  | a :: r, v :: vs, m, h => by
    simp only [List.zip_cons_cons, bindC]
    rw [bindC_other r vs _ fun q => h (List.mem_cons_of_mem _ q)]
    split
    · rfl
    · exact if_neg fun q : x = a => h (q ▸ List.mem_cons_self)

variable {X : Cx} {n : Nat} {ρ : Nat → Addr} {h : Heap}
theorem bind_has {x : Str} : ∀ {names : List Str} {vs : List V} {vals : List Value} (m : Str → Option Value), names.Nodup → HasAll X n ρ h vs vals → ∀ {v : V}, (names.zip vs).lookup x = some v →
    ∃ a, Has X n ρ h v a ∧ (kd x = some .local → bindL kd (names.zip vals) m x = some a) ∧ (kd x ≠ some .local → bindC kd (names.zip vals) m x = some a)
  | [], vs, vals, m, _, _, v, e => by simp at e
  | a :: r, [], _, m, _, .nil, v, e => by simp at e
  | a :: r, w :: ws, _, m, hnd, .cons (a := b) (as := bs) h1 h2, v, e => by
    obtain ⟨n1, n2⟩ := List.nodup_cons.mp hnd
    simp only [List.zip_cons_cons, List.lookup_cons] at e
    cases hb : x == a with
    | true =>
      rw [hb] at e; cases e
      have hxa := beq_iff_eq.mp hb
      subst hxa
      refine ⟨b, h1, fun hk => ?_, fun hk => ?_⟩
      · simp only [List.zip_cons_cons, bindL]
        rw [bindL_other r bs _ n1, if_pos hk]; exact if_pos rfl
      · simp only [List.zip_cons_cons, bindC]
        rw [bindC_other r bs _ n1, if_neg hk]; exact if_pos rfl
    | false =>
      rw [hb] at e
      simp only [List.zip_cons_cons, bindL, bindC]
      obtain ⟨q, hq, h3, _⟩ := bind_has (if kd a = some .local then (fun y => if y = a then some b else m y) else m) n2 h2 e
      obtain ⟨q', hq', _, h4⟩ := bind_has (if kd a = some .local then m else (fun y => if y = a then some b else m y)) n2 h2 e
      by_cases hk : kd x = some .local
      · exact ⟨q, hq, h3, fun hn => absurd hk hn⟩
      · exact ⟨q', hq', fun hl => absurd hl hk, h4⟩
end

/-- how a body's end meets a call's end -/
noncomputable def retK (σ : Store) (K : OutE → Prop) : OutS → Prop
  | .next _ σ₁ => ∃ v σ' π, Emb σ σ₁ σ' (.d .none) v π ∧ K (.val v σ')
  | .ret v₁ σ₁ => ∃ v σ' π, Emb σ σ₁ σ' v₁ v π ∧ K (.val v σ')
  | .exn c _ σ₁ => ∃ σ' π, Emb σ σ₁ σ' (.d .none) (.d .none) π ∧ K (.exn c σ')

theorem valid_fn {X : Cx} {k n : Nat} {Γ : Sig} {f : Str} {names : List Str} {body : List Stmt} {scope : Scope} {T : Contract} (cx : CxOk X) (ok : SigOk X k Γ) (hf : IsFn X f names body scope) (hok : fnOkB names scope = true)
    (hb : ∀ vs σ K, T vs σ K → vs.length = names.length ∧ wpSs (wpS Γ n (kindsOf scope.names)) body (fun y => (names.zip vs).lookup y) σ (retK σ K)) : ValidF X (k + 1) f T := by
  obtain ⟨a, o, pm, code, doc, params, hmg, ho, hd, hcd, p1, p2, p3, p4, p5⟩ := hf.fn
  have fo := fnOk_of hok
  refine ⟨.ref a, by unfold Cx.val; rw [hmg]; rfl, Kp.func ho hd, ?_⟩
  intro vs σ K hT A s ρ vals Q E ar R hall hokE erE
  obtain ⟨hlen, hw⟩ := hb vs σ K hT
  have hlen' : vals.length = names.length := by rw [← hall.length]; exact hlen
  have hdep := ar.depth
  refine wpAny_call (codeAny_call_cells (binds := names.zip vals) (by omega) (R.base _ _ ho) hd (cx.nolimit.keeps R.base) (hcd.keeps R.base) rfl
    (bind_plain p1 p2 p3 p4 p5 rfl fo.nodup hlen') rfl (fun x hx => ?_) (fun s₁ ic => ?_) fo.cor fo.gen fo.kind)
  · have hx1 : x.1 ∈ names := (List.of_mem_zip hx).1
    rcases fo.params x.1 hx1 with q | q
    · exact .inl q
    · exact .inr ⟨q, cellsFrom_isSome _ _ _ (.inl q)⟩
  · obtain ⟨⟨⟨h₁, tk₁, rfl⟩, hns, hkeep, hfresh⟩, hcell, hapart, habove⟩ := ic
    dsimp only at hns hkeep
    have henv : (callEnvC (docDef f params body scope pm code doc) s.heap.objs.size a).locals = s.heap.objs.size := rfl
    generalize hE : callEnvC (docDef f params body scope pm code doc) s.heap.objs.size a = env at *
    have hsc : env.scope = scope := by rw [← hE]; rfl
    have hfr : env.frame = some env.locals := by rw [← hE]; rfl
    have hz : s.heap.objs.size ≤ h₁.objs.size := by
      obtain ⟨o', es, ep, e', _⟩ := hns
      rw [henv] at e'
      exact Nat.le_of_lt (Heap.lt_size e')
    have hkd : ∀ x, env.kindOf x = scope.names.lookup x := fun x => by unfold Env.kindOf; rw [hsc]
    have R₁ : Rep X ρ σ h₁ := R.grow hkeep
    have g₁ : Go Nowhere σ ρ s.heap σ ρ h₁ := .ofGrow hz hkeep
    have hall₁ := hall.go R g₁ .nowhere
    have hnone : ∀ b, s.heap.objs.size ≤ b → X.B.get? b = none := fun b hb => by
      cases e : X.B.get? b with
      | none => rfl
      | some o => exact absurd (Heap.lt_size (R.base _ _ e)) (Nat.not_lt.mpr hb)
    have F₁ : Frm X env (kindsOf scope.names) (fun y => (names.zip vs).lookup y) σ.length ρ h₁ := {
      kind := by rw [hsc]; exact fo.kind
      glob := by rw [← hE]; rfl
      bi := by rw [← hE]; rfl
      kinds := {
        loc := fun x hx => (hkd x).trans hx
        cell := fun x hx => (hkd x).trans hx
        free := fun x hx => absurd rfl (fo.nofree _ (mem_lookup hx))
        glob := fun x hx => (hkd x).trans hx
        debug := fo.debug
        classdict := fo.classdict }
      ns := ⟨_, hns, fun x v hx hv => by
        obtain ⟨b, h1, h2, _⟩ := bind_has (kd := env.kindOf) (fun _ => none) fo.nodup hall₁ hv
        exact ⟨b, h2 ((hkd x).trans hx), h1⟩⟩
      cells := fun x hx => by
        have hx' : scope.names.lookup x = some .cell := by
          rcases hx with q | q
          · exact q
          · exact absurd rfl (fo.nofree _ (mem_lookup q))
        have hcs : env.cells = cellsFrom (s.heap.objs.size + 1) scope.names [] := by rw [← hE]; rfl
        have := cellsFrom_isSome scope.names (s.heap.objs.size + 1) [] (.inl hx')
        rw [← hcs] at this
        obtain ⟨c, hc⟩ := Option.isSome_iff_exists.mp this
        refine ⟨c, _, hc, hcell x c hc, fun v hv => ?_⟩
        obtain ⟨b, h1, _, h2⟩ := bind_has (kd := env.kindOf) (fun _ => none) fo.nodup hall₁ hv
        exact ⟨b, h2 (by rw [hkd x, hx']; decide), h1⟩
      isCells := fun x c hc => ⟨_, hcell x c hc⟩
      sepL := fun i hi q => by
        have := R.lt hi
        rw [q, henv] at this
        exact Nat.lt_irrefl _ this
      newL := hnone _ (by rw [henv]; exact Nat.le_refl _)
      newC := fun x c hc => hnone c (by have := habove x c (mem_of_lookup hc); rw [henv] at this; exact Nat.le_of_lt this)
      apart := fun x y c hx hy => name_of_addr hapart (mem_of_lookup hx) (mem_of_lookup hy) }
    have ar₁ : Ar X k (A.deeper env) env h₁ := {
      handled := fun q => ar.handled (by omega)
      depth := by show A.depth + 1 + k < recursionLimit; omega
      units := by show A.units + 3 + 20 * k + 200 < cLine; have := ar.units; omega
      stack := by
        obtain ⟨l, h1, h3⟩ := ar.stack
        refine ⟨env, l, ?_, rfl, ?_⟩
        · show A.frames.map (env :: ·) = _
          rw [h1]; rfl
        · intro e he
          rcases List.mem_cons.mp he with rfl | he
          · obtain ⟨o', es, ep, e', d, _⟩ := hns
            exact ⟨by rw [hsc, fo.kind]; decide, _, o', es, ep, hfr, hnone _ (by rw [henv]; exact Nat.le_refl _), e', d⟩
          · exact h3.go g₁ e he }
    have hWr : ∀ b o, s.heap.get? b = some o → Wr env b → False := fun b o e hb => by
      have hlt := Heap.lt_size e
      rcases hb with q | ⟨x, hx⟩
      · rw [q, henv] at hlt; exact Nat.lt_irrefl _ hlt
      · have := habove x b (mem_of_lookup hx); rw [henv] at this; exact absurd hlt (Nat.not_lt.mpr (Nat.le_of_lt this))
    have fin : ∀ {v₁ σ₁ ρ₁ a₁ h' v σ' π} {tk : Nat}, Emb σ σ₁ σ' v₁ v π → K (.val v σ') → Rep X ρ₁ σ₁ h' → Go (Wr env) σ ρ h₁ σ₁ ρ₁ h' → Has X σ₁.length ρ₁ h' v₁ a₁ → Q a₁ { s with heap := h', toks := tk } := by
      intro v₁ σ₁ ρ₁ a₁ h' v σ' π tk e hK R' g' hv
      have G : Go (Wr env) σ ρ s.heap σ₁ ρ₁ h' := g₁.up.trans g'
      obtain ⟨Rf, gf, hf⟩ := e.rep R R' G hv
      exact hokE v σ' _ a₁ h' tk hK Rf (gf.weaken fun b o e q => hWr b o e q) hf
    refine SS.seq (fun st m σ K => soundS cx n ok env _ st m σ K) body _ σ _ hw (A.deeper env) { s with heap := h₁, toks := tk₁ } ρ _ _ ar₁ R₁ F₁ (fun m' σ₁ ρ₁ h' tk hK R' g' F' => ?_) (fun v₁ σ₁ ρ₁ a₁ h' tk hK R' g' _ hv => ?_) fun c m' σ₁ ρ₁ e h' tk hK R' g' F' fl => ?_
    · obtain ⟨v, σ', π, e, hK⟩ := hK
      exact fin e hK R' g' .ofNone
    · obtain ⟨v, σ', π, e, hK⟩ := hK
      exact fin e hK R' g' hv
    · obtain ⟨σ', π, em, hK⟩ := hK
      have G : Go (Wr env) σ ρ s.heap σ₁ ρ₁ h' := g₁.up.trans g'
      have hlt : ∀ b o, X.B.get? b = some o → b < s.heap.objs.size := fun b o q => Heap.lt_size (R.base b o q)
      unfold leaving
      refine wpAny_bind (note_sound (s := { s with heap := h', toks := tk }) (ar₁.go g') hfr (fl.sz hz) G.size fun D₂ h₂ dok₂ hD₂ f₂ x₂ => ?_)
      refine flight_sound (s := { s with heap := h₂, toks := tk }) (fr := none) x₂ rfl fun D₃ h₃ dok₃ hD₃ f₃ x₃ => ?_
      have R₃ := (R'.fl dok₂ f₂ (base_notD (h := h') hD₂ hlt)).fl dok₃ f₃ (base_notD (h := h') hD₃ hlt)
      have G₃ := (G.fl f₂ hD₂).fl f₃ hD₃
      obtain ⟨Rf, gf, _⟩ := em.rep R R₃ G₃ .ofNone
      exact erE c σ' _ e h₃ tk hK Rf (gf.weaken fun b o e q => hWr b o e q) x₃.none
end Mine

set_option Elab.async false
set_option autoImplicit false
set_option linter.unusedVariables false
namespace Mine
open PySem PySem.Spec PySem.Calls PyProof.Rows

/-- the built-in names that the programs use -/
noncomputable def biTable : List (Str × Value) := [("len", .builtin "len"), ("isinstance", .builtin "isinstance"), ("sum", .builtin "sum"), ("min", .builtin "min"), ("max", .builtin "max"), ("abs", .builtin "abs"),
  ("sorted", .builtin "sorted"), ("all", .builtin "all"),
  ("list", .type "list"), ("range", .type "range"), ("int", .type "int"), ("bool", .type "bool"), ("str", .type "str"), ("tuple", .type "tuple"), ("zip", .type "zip"), ("dict", .type "dict"), ("ValueError", .type "ValueError")]

noncomputable def CxB (X : Cx) : Prop := ∀ p ∈ biTable, X.val p.1 = some p.2

/-! len -/
noncomputable def lenT : Contract := fun vs σ K => match vs with
  | [.ref i] => ∃ xs, itemsAt σ i = some xs ∧ xs.length ≤ 1000000 ∧ K (.val (.d (.int xs.length)) σ)
  | [.d (.tuple xs)] => xs.length ≤ 1000000 ∧ K (.val (.d (.int xs.length)) σ)
  | [.d (.str x)] => x.length ≤ 1000000 ∧ K (.val (.d (.int x.length)) σ)
  | _ => False

section
variable {X : Cx} {k : Nat}

theorem HasAll.one_inv {n : Nat} {ρ : Nat → Addr} {h : Heap} {v : V} {as : List Value} (x : HasAll X n ρ h [v] as) : ∃ a, as = [a] ∧ Has X n ρ h v a := by
  cases x with | cons h1 h2 => cases h2; exact ⟨_, rfl, h1⟩
theorem HasAll.two_inv {n : Nat} {ρ : Nat → Addr} {h : Heap} {v w : V} {as : List Value} (x : HasAll X n ρ h [v, w] as) : ∃ a b, as = [a, b] ∧ Has X n ρ h v a ∧ Has X n ρ h w b := by
  cases x with | cons h1 h2 => cases h2 with | cons h2 h3 => cases h3; exact ⟨_, _, rfl, h1, h2⟩

theorem len_tup {prog : Program} {w : World} {A : Around} {s : Shared} {E : Value → Shared → Prop} {t : Addr} {items : Array Value} {Q : Value → Shared → Prop} (ht : IsTup s.heap t items) (hfit : (items.size : Int) < 2 ^ 63)
    (h : ∀ tk u, Q (.int items.size u) { s with toks := tk }) : wpAny (model prog w) A (call (.builtin "len") [.ref t]) Q E s :=
  PyProof.Rows.len_tuple ht (by omega) (h _ _)

theorem valid_len (b : CxB X) : ValidF X k ("len" : Str) lenT := by
  refine ⟨.builtin "len", b ("len", .builtin "len") (by simp [biTable]), Kp.builtin, ?_⟩
  intro vs σ K hT A s ρ vals Q E ar R hall ok er
  unfold lenT at hT
  split at hT
  · obtain ⟨xs, h1, h2, h3⟩ := hT
    obtain ⟨a, rfl, hv⟩ := hall.one_inv
    obtain ⟨_, rfl⟩ := hv.ref_inv
    obtain ⟨_, its, ⟨n, e⟩, ha⟩ := R.list h1
    have hz : xs.length = its.length := ha.length
    refine call_len_list ⟨_, e, rfl, n, rfl⟩ (by rw [List.size_toArray]; omega) ?_
    have := ok _ _ _ (.int its.length (s.toks + 1)) _ (s.toks + 1 + 1) h3 R (.refl ..) (by rw [hz]; exact .ofInt ..)
    simpa using this
  · obtain ⟨h2, h3⟩ := hT
    obtain ⟨a, rfl, hv⟩ := hall.one_inv
    have r := hv.d_inv
    cases r with
    | @tuple a o vs n xs as e1 e2 e3 e4 =>
      have hl := SeqAt.ReadsAll.length _ _ _ e4
      rw [Array.length_toList] at hl
      refine len_tup ⟨o, e1, e2, n, e3⟩ (by omega) fun tk u => ?_
      exact ok _ _ _ _ _ tk h3 R (.refl ..) (by rw [hl]; exact .ofInt ..)
  · obtain ⟨h2, h3⟩ := hT
    obtain ⟨a, rfl, hv⟩ := hall.one_inv
    obtain ⟨t, rfl⟩ := hv.str_inv
    exact PySem.P.len_str (by omega) (ok _ _ _ _ _ _ h3 R (.refl ..) (.ofInt ..))
  · exact hT.elim

/-! isinstance -/
noncomputable def kindName : PyData → Option String
  | .none => some "NoneType"
  | .bool _ => some "bool"
  | .int _ => some "int"
  | .str _ => some "str"
  | .tuple _ => some "tuple"
  | _ => none
noncomputable def isiName (k : String) (t : Str) : Option Bool :=
  if t = ("int" : Str) then some (k == "int" || k == "bool")
  else if t = ("bool" : Str) then some (k == "bool")
  else if t = ("str" : Str) then some (k == "str")
  else if t = ("tuple" : Str) then some (k == "tuple")
  else if t = ("list" : Str) then some (k == "list")
  else none
noncomputable def isiW (σ : Store) (v : V) (t : Str) : Option Bool :=
  match v with
  | .d x => (kindName x).bind fun k => isiName k t
  | .ref i => (σ[i]?).bind fun c => isiName (match c with | .dct => "dict" | _ => "list") t
  | _ => none
noncomputable def isi0T : Contract := fun vs σ K => match vs with
  | [v, .glob t] => ∃ b, isiW σ v t = some b ∧ K (.val (.d (.bool b)) σ)
  | _ => False

theorem none_isi {prog : Program} {w : World} {A : Around} {s : Shared} {E : Value → Shared → Prop} {Q : Value → Shared → Prop} {T : String} (hT : T ∈ ["int", "bool", "str", "tuple", "list"]) (h : ∀ tk, Q (.bool false) { s with toks := tk }) :
    wpAny (model prog w) A (call (.builtin "isinstance") [.none, .type T]) Q E s := by
  simp only [List.mem_cons, List.not_mem_nil, or_false] at hT
  rcases hT with rfl | rfl | rfl | rfl | rfl
  · exact IsiPair.NoneType_int (h _)
  · exact IsiPair.NoneType_bool (h _)
  · exact IsiPair.NoneType_str (h _)
  · exact IsiPair.NoneType_tuple (h _)
  · exact IsiPair.NoneType_list (h _)

theorem isi_sound {prog : Program} {w : World} {A : Around} {s : Shared} {E : Value → Shared → Prop} {Q : Value → Shared → Prop} {T k : String} {v : Value} {b : Bool} (hT : T ∈ ["int", "bool", "str", "tuple", "list"])
    (hk : (k = "NoneType" ∧ v = .none) ∨ (k = "bool" ∧ ∃ c, v = .bool c) ∨ (k = "int" ∧ ∃ i t, v = .int i t) ∨ (k = "str" ∧ ∃ i t, v = .str i t) ∨ (k = "tuple" ∧ ∃ a o, v = .ref a ∧ s.heap.get? a = some o ∧ o.cls = .type "tuple") ∨
      (k = "list" ∧ ∃ a o, v = .ref a ∧ s.heap.get? a = some o ∧ o.cls = .type "list") ∨ (k = "dict" ∧ ∃ a o, v = .ref a ∧ s.heap.get? a = some o ∧ o.cls = .type "dict"))
    (hb : b = (k == T || (k == "bool" && T == "int"))) (h : ∀ tk, Q (.bool b) { s with toks := tk }) : wpAny (model prog w) A (call (.builtin "isinstance") [v, .type T]) Q E s := by
  rcases hk with ⟨rfl, rfl⟩ | ⟨rfl, c, rfl⟩ | ⟨rfl, i, t, rfl⟩ | ⟨rfl, i, t, rfl⟩ | ⟨rfl, a, o, rfl, ho, hc⟩ | ⟨rfl, a, o, rfl, ho, hc⟩ | ⟨rfl, a, o, rfl, ho, hc⟩
  · refine none_isi hT fun tk => ?_
    have hb' : b = false := by
      subst hb
      simp only [List.mem_cons, List.not_mem_nil, or_false] at hT
      rcases hT with rfl | rfl | rfl | rfl | rfl <;> decide
    rw [← hb']; exact h tk
  all_goals (simp only [List.mem_cons, List.not_mem_nil, or_false] at hT)
  all_goals (rcases hT with rfl | rfl | rfl | rfl | rfl)
  all_goals first
    | (have hb' : b = true := by (rw [hb]; decide)
       subst hb'
       first
         | exact IsiPair.bool_int (h s.toks) | exact IsiPair.bool_bool (h s.toks) | exact IsiPair.int_int (h s.toks) | exact IsiPair.str_str (h s.toks)
         | exact IsiPair.tuple_tuple (by assumption) (by assumption) (h s.toks) | exact IsiPair.list_list (by assumption) (by assumption) (h s.toks))
    | (have hb' : b = false := by (rw [hb]; decide)
       subst hb'
       first
         | exact IsiPair.bool_str (h _) | exact IsiPair.bool_tuple (h _) | exact IsiPair.bool_list (h _)
         | exact IsiPair.int_bool (h _) | exact IsiPair.int_str (h _) | exact IsiPair.int_tuple (h _) | exact IsiPair.int_list (h _)
         | exact IsiPair.str_int (h _) | exact IsiPair.str_bool (h _) | exact IsiPair.str_tuple (h _) | exact IsiPair.str_list (h _)
         | exact IsiPair.tuple_int (by assumption) (by assumption) (h _) | exact IsiPair.tuple_bool (by assumption) (by assumption) (h _) | exact IsiPair.tuple_str (by assumption) (by assumption) (h _) | exact IsiPair.tuple_list (by assumption) (by assumption) (h _)
         | exact IsiPair.dict_int (by assumption) (by assumption) (h _) | exact IsiPair.dict_bool (by assumption) (by assumption) (h _) | exact IsiPair.dict_str (by assumption) (by assumption) (h _) | exact IsiPair.dict_tuple (by assumption) (by assumption) (h _) | exact IsiPair.dict_list (by assumption) (by assumption) (h _)
         | exact IsiPair.list_int (by assumption) (by assumption) (h _) | exact IsiPair.list_bool (by assumption) (by assumption) (h _) | exact IsiPair.list_str (by assumption) (by assumption) (h _) | exact IsiPair.list_tuple (by assumption) (by assumption) (h _))

theorem isiName_inv {k : String} {t : Str} {b : Bool} (hk : k ∈ ["NoneType", "bool", "int", "str", "tuple", "list", "dict"]) (h : isiName k t = some b) : ∃ T ∈ ["int", "bool", "str", "tuple", "list"], t = Str.ofString T ∧ b = (k == T || (k == "bool" && T == "int")) := by
  unfold isiName at h
  split at h
  · rename_i e; cases h; exact ⟨"int", by simp, e, by simp only [List.mem_cons, List.not_mem_nil, or_false] at hk; rcases hk with rfl | rfl | rfl | rfl | rfl | rfl | rfl <;> decide⟩
  · split at h
    · rename_i e; cases h; exact ⟨"bool", by simp, e, by simp only [List.mem_cons, List.not_mem_nil, or_false] at hk; rcases hk with rfl | rfl | rfl | rfl | rfl | rfl | rfl <;> decide⟩
    · split at h
      · rename_i e; cases h; exact ⟨"str", by simp, e, by simp only [List.mem_cons, List.not_mem_nil, or_false] at hk; rcases hk with rfl | rfl | rfl | rfl | rfl | rfl | rfl <;> decide⟩
      · split at h
        · rename_i e; cases h; exact ⟨"tuple", by simp, e, by simp only [List.mem_cons, List.not_mem_nil, or_false] at hk; rcases hk with rfl | rfl | rfl | rfl | rfl | rfl | rfl <;> decide⟩
        · split at h
          · rename_i e; cases h; exact ⟨"list", by simp, e, by simp only [List.mem_cons, List.not_mem_nil, or_false] at hk; rcases hk with rfl | rfl | rfl | rfl | rfl | rfl | rfl <;> decide⟩
          · cases h

theorem valid_isi (b : CxB X) : ValidF X k ("isinstance" : Str) isi0T := by
  refine ⟨.builtin "isinstance", b ("isinstance", .builtin "isinstance") (by simp [biTable]), Kp.builtin, ?_⟩
  intro vs σ K hT A s ρ vals Q E ar R hall ok er
  unfold isi0T at hT
  split at hT
  · rename_i v t
    obtain ⟨r, h1, h2⟩ := hT
    obtain ⟨a, c, rfl, hv, hc⟩ := hall.two_inv
    have hty : ∀ T ∈ ["int", "bool", "str", "tuple", "list"], t = Str.ofString T → c = .type T := fun T hT e => by
      have := hc.glob_inv
      subst e
      simp only [List.mem_cons, List.not_mem_nil, or_false] at hT
      rcases hT with rfl | rfl | rfl | rfl | rfl
      · have q := b ("int", .type "int") (by simp [biTable]); rw [this] at q; exact Option.some.inj q
      · have q := b ("bool", .type "bool") (by simp [biTable]); rw [this] at q; exact Option.some.inj q
      · have q := b ("str", .type "str") (by simp [biTable]); rw [this] at q; exact Option.some.inj q
      · have q := b ("tuple", .type "tuple") (by simp [biTable]); rw [this] at q; exact Option.some.inj q
      · have q := b ("list", .type "list") (by simp [biTable]); rw [this] at q; exact Option.some.inj q
    have fin : ∀ tk, Q (.bool r) { s with toks := tk } := fun tk => ok _ _ _ _ _ tk h2 R (.refl ..) (.ofBool r)
    unfold isiW at h1
    split at h1
    · rename_i x
      obtain ⟨kn, hk, h1⟩ := Option.bind_eq_some_iff.mp h1
      have hr := hv.d_inv
      cases x with
      | none => cases hk; cases hr; obtain ⟨T, hT, e, hb⟩ := isiName_inv (by simp) h1; rw [hty T hT e]; exact isi_sound hT (.inl ⟨rfl, rfl⟩) hb fin
      | bool x => cases hk; cases hr; obtain ⟨T, hT, e, hb⟩ := isiName_inv (by simp) h1; rw [hty T hT e]; exact isi_sound hT (.inr (.inl ⟨rfl, _, rfl⟩)) hb fin
      | int x => cases hk; cases hr; obtain ⟨T, hT, e, hb⟩ := isiName_inv (by simp) h1; rw [hty T hT e]; exact isi_sound hT (.inr (.inr (.inl ⟨rfl, _, _, rfl⟩))) hb fin
      | str x => cases hk; cases hr; obtain ⟨T, hT, e, hb⟩ := isiName_inv (by simp) h1; rw [hty T hT e]; exact isi_sound hT (.inr (.inr (.inr (.inl ⟨rfl, _, _, rfl⟩)))) hb fin
      | tuple x =>
        cases hk
        cases hr with
        | @tuple a o vs n xs as e1 e2 e3 e4 => obtain ⟨T, hT, e, hb⟩ := isiName_inv (by simp) h1; rw [hty T hT e]; exact isi_sound hT (.inr (.inr (.inr (.inr (.inl ⟨rfl, _, _, rfl, e1, e2⟩))))) hb fin
      | list x => cases hk
      | dict x => cases hk
    · obtain ⟨c, hi, h1⟩ := Option.bind_eq_some_iff.mp h1
      obtain ⟨_, rfl⟩ := hv.ref_inv
      obtain ⟨oc, its, hp, sh, _⟩ := R.cell _ _ hi
      cases c with
      | dct =>
        obtain ⟨T, hT, e', hb⟩ := isiName_inv (k := "dict") (by simp) h1
        rw [hty T hT e']
        exact isi_sound hT (.inr (.inr (.inr (.inr (.inr (.inr ⟨rfl, _, _, rfl, hp, sh.1⟩)))))) hb fin
      | lst xs =>
        obtain ⟨n, rfl⟩ := sh
        obtain ⟨T, hT, e', hb⟩ := isiName_inv (k := "list") (by simp) h1
        rw [hty T hT e']
        exact isi_sound hT (.inr (.inr (.inr (.inr (.inr (.inl ⟨rfl, _, _, rfl, hp, rfl⟩)))))) hb fin
      | rol xs =>
        obtain ⟨n, rfl⟩ := sh
        obtain ⟨T, hT, e', hb⟩ := isiName_inv (k := "list") (by simp) h1
        rw [hty T hT e']
        exact isi_sound hT (.inr (.inr (.inr (.inr (.inr (.inl ⟨rfl, _, _, rfl, hp, rfl⟩)))))) hb fin
    · cases h1
  · exact hT.elim

/-! sums, least and greatest -/
noncomputable abbrev vInt (i : Int) : V := .d (.int i)

/-! list, range -/
/-! append -/
end
end Mine

set_option Elab.async false
set_option autoImplicit false
set_option linter.unusedVariables false
set_option maxRecDepth 100000
namespace Mine
open PySem PySem.Spec PySem.Calls PyProof.Rows PySem.W

noncomputable def gaIn (K : Frag) (C : Addr) : Bool := (findIn K (.ref C) "__getattribute__" == some (some (.builtin "BaseException.__getattribute__")) && findIn K (.ref C) "__getattr__" == some none) && subIn K (.ref C) (.type "BaseException") == some true
theorem gaIn_of {K : Frag} {C : Addr} (h : gaIn K C = true) : findIn K (.ref C) "__getattribute__" = some (some (.builtin "BaseException.__getattribute__")) ∧ findIn K (.ref C) "__getattr__" = some none ∧ subIn K (.ref C) (.type "BaseException") = some true := by
  unfold gaIn at h
  simp only [Bool.and_eq_true, beq_iff_eq] at h
  exact ⟨h.1.1, h.1.2, h.2⟩

noncomputable def famOne (fam : List Str) (K : Frag) (c : Str) : Bool := match nsIn K mainGlobals c with
  | some (some (.ref C)) => (((((((excIn K C bmV "ValueError.__new__" && gaIn K C) && (clsIn K C).isSome) && findIn K (.ref C) "__class__" == some (some (.builtin "object.__class__"))) && mroIn K C (.type "object") == some true) &&
      subIn K (.ref C) (.type "ValueError") == some true) && typeIn K (.ref C) == some (.type "type")) && fam.all fun D => match nsIn K mainGlobals D with
        | some (some (.ref Dc)) => subIn K (.ref C) (.ref Dc) == some (kinB c D)
        | _ => false)
  | _ => false
noncomputable def famB (fam : List Str) (K : Frag) : Bool := (fam.all (famOne fam K) && specialIn K (.builtin "object.__class__") "__get__" == some (some (.builtin "getset_descriptor.__get__"))) && takesIn K (.builtin "object.__class__") == some true

structure FamOne (fam : List Str) (K : Frag) (c : Str) (C : Addr) : Prop where
  at_ : nsIn K mainGlobals c = some (some (.ref C))
  exc : excIn K C bmV "ValueError.__new__" = true
  plain : gaIn K C = true
  cls : (clsIn K C).isSome = true
  find : findIn K (.ref C) "__class__" = some (some (.builtin "object.__class__"))
  mro : mroIn K C (.type "object") = some true
  ve : subIn K (.ref C) (.type "ValueError") = some true
  typ : typeIn K (.ref C) = some (.type "type")
  sub : ∀ D ∈ fam, ∀ Dc, nsIn K mainGlobals D = some (some (.ref Dc)) → subIn K (.ref C) (.ref Dc) = some (kinB c D)

theorem famOne_of {fam : List Str} {K : Frag} {c : Str} (h : famOne fam K c = true) : ∃ C, FamOne fam K c C := by
  unfold famOne at h
  split at h
  · rename_i C hC
    simp only [Bool.and_eq_true, beq_iff_eq, List.all_eq_true] at h
    obtain ⟨⟨⟨⟨⟨⟨⟨h1, h2⟩, h3⟩, h4⟩, h5⟩, h6⟩, h7⟩, h8⟩ := h
    refine ⟨C, hC, h1, h2, h3, h4, h5, h6, h7, fun D hD Dc hDc => ?_⟩
    have := h8 D hD
    rw [hDc] at this
    exact beq_iff_eq.mp this
  · cases h

structure Fam (fam : List Str) (K : Frag) : Prop where
  one : ∀ c ∈ fam, ∃ C, FamOne fam K c C
  get : specialIn K (.builtin "object.__class__") "__get__" = some (some (.builtin "getset_descriptor.__get__"))
  takes : takesIn K (.builtin "object.__class__") = some true
theorem fam_of {fam : List Str} {K : Frag} (h : famB fam K = true) : Fam fam K := by
  unfold famB at h
  simp only [Bool.and_eq_true, beq_iff_eq, List.all_eq_true] at h
  exact ⟨fun c hc => famOne_of (h.1.1 c hc), h.1.2, h.2⟩

section
variable {fam : List Str} {prog : Program} {w : World} {A : Around} {E : Value → Shared → Prop} {s : Shared} {K : Frag} {x D : Addr} {ox : Obj} {r : Bool}

theorem ex_body {Q : PySem.Fin → Shared → Prop} {c : Str} {tk : Tok} (fm : Fam fam K) (f : FamOne fam K c D) (X : K.In s.heap) (I : InstAt s.heap x ox D none) (h : Q (.done (.ret (.ref D))) s) :
    wpAny (model prog w) A (Builtin.«object.__getattribute__» ⟨[.ref x, .str ("__class__" : Str) tk], []⟩) Q E s := by
  have hf : findObj K D none "__class__" = some (.bind (.builtin "getset_descriptor.__get__") (.builtin "object.__class__")) := by
    obtain ⟨cd, hc⟩ := Option.isSome_iff_exists.mp f.cls
    unfold findObj
    rw [hc, Option.bind_some, f.find, Option.bind_some]
    simp [fm.get, fm.takes]
  have L0 := I.type (M := model prog w)
  have LF := looks_find (M := model prog w) X I hf
  obtain ⟨h0, g, d, tt, os⟩ := s
  unfold Builtin.«object.__getattribute__»
  have e1 : slotArgs "__getattribute__" 1 ⟨[.ref x, .str ("__class__" : Str) tk], []⟩ = pure (.ref x, [.str ("__class__" : Str) tk]) := rfl
  rw [e1]
  refine wpAny_bind (wpAny_pure ?_)
  refine wpAny_bind (wpAny_pure (wpAny_bind (L0.at (wpAny_bind (LF.at ?_)))))
  show wpAny _ _ (Builtin.ObjectAttr.bindTo (.builtin "getset_descriptor.__get__") (.builtin "object.__class__") (.ref x) (.ref D)) _ _ _
  show wpAny _ _ (holding [.builtin "object.__class__"] (call (.builtin "getset_descriptor.__get__") [.builtin "object.__class__", .ref x, .ref D]) >>= ret) _ _ _
  refine wpAny_bind (wpAny_holding (wpAny_call (class_get (ox := ox) (od := none) X I f.mro ?_)))
  exact wpAny_pure h

theorem ga_kind : builtinKind "BaseException.__getattribute__" = some .slot := by decide +kernel
theorem ga_split : splitId "BaseException.__getattribute__" = some ("BaseException", "__getattribute__") := by decide +kernel
theorem ga_check {Q : Unit → Shared → Prop} {tk : Tok} (L3 : Looks (model prog w) s.heap (isInstance (.ref x) (.type "BaseException")) true) (h : Q () s) : wpAny (model prog w) A (checkBuiltinCall "BaseException.__getattribute__" ⟨[.ref x, .str ("__class__" : Str) tk], []⟩) Q E s := by
  have hk := ga_kind
  have hs := ga_split
  have ha := PySem.F.args_bexc_ga (.ref x) (.str ("__class__" : Str) tk)
  obtain ⟨h0, g, d, tt, os⟩ := s
  simp only [checkBuiltinCall, hk, hs]
  refine wpAny_bind (L3.at ?_)
  repeat (first | assumption | wp_step)
theorem ex_ga {R : Result → Shared → Prop} {c : Str} {tk : Tok} (fm : Fam fam K) (f : FamOne fam K c D) (X : K.In s.heap) (I : InstAt s.heap x ox D none) (h : R (.ok (.ret (.ref D))) s) :
    codeAny (model prog w) A (.call (.builtin "BaseException.__getattribute__") ⟨[.ref x, .str ("__class__" : Str) tk], []⟩) R s := by
  have L3 : Looks (model prog w) s.heap (isInstance (.ref x) (.type "BaseException")) true := I.type.andThen (looks_subIn X (gaIn_of f.plain).2.2)
  exact codeAny_call_builtin PySem.F.attr_ValueError.ga.plain PySem.F.entry_bexc_ga (ga_check L3 (ex_body fm f X I h))

theorem ex_class {Q : Option Value → Shared → Prop} {c : Str} (fm : Fam fam K) (f : FamOne fam K c D) (X : K.In s.heap) (I : InstAt s.heap x ox D none) (h : ∀ tk, Q (some (.ref D)) { s with toks := tk }) : wpAny (model prog w) A (getAttr? (.ref x) "__class__") Q E s := by
  obtain ⟨h0, g, d, tt, os⟩ := s
  obtain ⟨g1, g2, g3⟩ := gaIn_of f.plain
  have L0 := I.type (M := model prog w)
  have L1 := looks_findIn (M := model prog w) X g1
  have L2 := looks_findIn (M := model prog w) X g2
  unfold getAttr? getAttrBy? getAttrBy
  refine wpAny_bind (wpAny_mkText (wpAny_bind (wpAny_attempt (wpAny_holding (wpAny_bind (L0.at (wpAny_bind (L1.at ?_))))))))
  dsimp only
  have hx2 : (Value.builtin "BaseException.__getattribute__" == Value.builtin "object.__getattribute__") = false := by decide +kernel
  rw [if_neg (by rw [hx2, Bool.and_false]; decide)]
  unfold getAttrByItsOwn hookBefore
  rw [if_pos (show onTheHeap (Value.ref D) = true from rfl)]
  refine wpAny_bind (L2.at ?_)
  refine wpAny_bind (wpAny_attempt (wpAny_holding ?_))
  unfold callGetattribute
  rw [if_neg (by rw [Bool.false_and]; decide)]
  unfold boundAndCalled
  refine wpAny_bind (wpAny_of_eq (PySem.F.attr_ValueError.ga.bind (.ref x)) ?_)
  refine wpAny_call (ex_ga (s := ⟨h0, g, d, tt + 1, os⟩) fm f X I ?_)
  exact handed_on rfl (wpAny_pure (h _))

theorem isType_in {M : Model} {h : Heap} (X : K.In h) (hc : (clsIn K D).isSome = true) : Looks M h (isType (.ref D)) true := by
  obtain ⟨cd, hc⟩ := Option.isSome_iff_exists.mp hc
  unfold clsIn at hc
  split at hc
  · rename_i c' d' cd' sl' ho
    intro A' Q' E' s' k q
    unfold isType loadHead
    exact wpAny_bind (wpAny_loadPart (k _ _ (X _ _ ho)) (wpAny_pure q))
  · cases hc

theorem ex_nested {c : Value} {cn : Str} {dep : Int} {tk : Tok} {Q : PySem.Fin → Shared → Prop} (fm : Fam fam K) (f : FamOne fam K cn D) (X : K.In s.heap) (I : InstAt s.heap x ox D none) (hty : Looks (model prog w) s.heap (typeOf c) (.type "type")) (his : Looks (model prog w) s.heap (isType c) true)
    (hne : (Value.ref D == c) = true → r = true) (hsub : Looks (model prog w) s.heap (isSubtype (.ref D) c) r) (h : ∀ tk, Q (.done (.ret (.bool r))) { s with toks := tk }) :
    wpAny (model prog w) A (Builtin.«isinstance.nested» ⟨[.ref x, c, .int dep tk], []⟩) Q E s := by
  have hisD := isType_in (M := model prog w) X f.cls
  obtain ⟨h0, g, d, tt, os⟩ := s
  have L0 := I.type (M := model prog w)
  have LI : Looks (model prog w) h0 (isInstance (.ref x) c) r := L0.andThen hsub
  unfold Builtin.«isinstance.nested»
  refine wpAny_bind (L0.at ?_)
  by_cases q : (Value.ref D == c) = true
  · rw [if_pos q]
    have := hne q
    subst this
    exact wpAny_bind (wpAny_rule (wpAny_bind (wpAny_pure (wpAny_pure (h tt)))))
  rw [if_neg q]
  refine wpAny_bind (hty.at ?_)
  rw [if_pos (by decide)]
  k_delta "plainIsInstance"
  refine wpAny_bind (wpAny_bind (his.at ?_))
  simp only [Bool.not_true, Bool.false_eq_true, if_false]
  refine wpAny_bind (LI.at ?_)
  cases r with
  | true =>
    simp only [if_true]
    exact wpAny_pure (wpAny_pure (h tt))
  | false =>
    simp only [Bool.false_eq_true, if_false]
    refine wpAny_bind (ex_class fm f X I fun tk' => ?_)
    refine wpAny_bind (hisD.at ?_)
    simp only [Bool.not_true, Bool.false_eq_true, if_false]
    refine wpAny_bind (wpAny_rule ?_)
    refine hsub.at ?_
    first
      | exact wpAny_pure (h _)
      | exact wpAny_pure (wpAny_pure (h _))
      | exact wpAny_bind (wpAny_pure (wpAny_pure (h _)))

theorem ex_call {c : Value} {cn : Str} {Q : Value → Shared → Prop} (fm : Fam fam K) (f : FamOne fam K cn D) (X : K.In s.heap) (I : InstAt s.heap x ox D none) (hty : ∀ (M : Model) h', K.In h' → Looks M h' (typeOf c) (.type "type")) (his : ∀ (M : Model) h', K.In h' → Looks M h' (isType c) true)
    (hne : (Value.ref D == c) = true → r = true) (hsub : ∀ (M : Model) h', K.In h' → Looks M h' (isSubtype (.ref D) c) r) (h : ∀ tk, Q (.bool r) { s with toks := tk }) : wpAny (model prog w) A (call (.builtin "isinstance") [.ref x, c]) Q E s :=
  call_isinstance (S := fun _ R s => (K.In s.heap ∧ InstAt s.heap x ox D none) ∧ ∀ tk, R (.ok (.ret (.bool r))) { s with toks := tk })
    (fun _ _ _ _ _ hs => isinstance_outer (ex_nested fm f hs.1.1 hs.1.2 (hty _ _ hs.1.1) (his _ _ hs.1.1) hne (hsub _ _ hs.1.1) hs.2) (by intro q; cases q)) ⟨⟨X, I⟩, h⟩
end

/-- the family stands on the top's heap -/
structure CxE (fam : List Str) (X : Cx) : Prop where
  fam : ∃ K : Frag, Fam fam K ∧ K.In X.B

theorem kinB_self (c : Str) : kinB c c = true := by unfold kinB; simp

section
variable {fam : List Str} {X : Cx} {k : Nat}
theorem CxE.exc (e : CxE fam X) {p : Program} {loose : List Str} (T : TopRead p loose X.mg X.mb X.B) {c : Str} (hc : fam.contains c = true) : ExcOk X c := by
  obtain ⟨K, fm, KX⟩ := e.fam
  obtain ⟨C, f⟩ := fm.one c (by simpa using hc)
  exact ⟨C, own_of_in KX T f.at_ f.exc⟩
theorem CxE.kin (e : CxE fam X) (cx : CxOk X) {c D : Str} (hc : fam.contains c = true) (hD : fam.contains D = true) : SubOk X c D := by
  obtain ⟨K, fm, KX⟩ := e.fam
  obtain ⟨C, f⟩ := fm.one c (by simpa using hc)
  obtain ⟨Dc, fD⟩ := fm.one D (by simpa using hD)
  refine ⟨C, Dc, mg_of KX cx.g f.at_, mg_of KX cx.g fD.at_, fun M A Q E s hk hq => ?_⟩
  exact looks_subIn (M := M) KX (f.sub D (by simpa using hD) Dc fD.at_) A Q E s hk hq

/-- isinstance, of own exceptions too -/
noncomputable def isiT (fam : List Str) : Contract := fun vs σ K => match vs with
  | [.exc c, .glob D] => (fam.contains c = true ∧ (fam.contains D = true ∨ D = ("ValueError" : Str))) ∧ K (.val (.d (.bool (kinB c D))) σ)
  | vs => isi0T vs σ K

theorem isi_of {fam : List Str} {σ : Store} {v : V} {t : Str} {b : Bool} {K : OutE → Prop} (h : isiW σ v t = some b) (hK : K (.val (.d (.bool b)) σ)) : isiT fam [v, .glob t] σ K := by
  cases v <;> first | exact ⟨b, h, hK⟩ | cases h

theorem valid_isiX (b : CxB X) (ce : CxE fam X) (cx : CxOk X) : ValidF X k ("isinstance" : Str) (isiT fam) := by
  obtain ⟨f, h1, h2, h3⟩ := valid_isi (k := k) b
  have hf : f = .builtin "isinstance" := by
    have := b ("isinstance", .builtin "isinstance") (by simp [biTable])
    rw [h1] at this; exact Option.some.inj this
  subst hf
  refine ⟨_, h1, h2, ?_⟩
  intro vs σ K hT A s ρ vals Q E ar R hall ok er
  unfold isiT at hT
  split at hT
  · rename_i c D
    obtain ⟨⟨hc, hD⟩, hK⟩ := hT
    obtain ⟨a, v, rfl, ha, hv⟩ := hall.two_inv
    have hv := hv.glob_inv
    obtain ⟨K, fm, KX⟩ := ce.fam
    obtain ⟨C, f⟩ := fm.one c (by simpa using hc)
    cases ha with
    | @exc _ C' e oe fs hm he hcls hd hdict =>
      have hm' := mg_of KX cx.g f.at_
      have hCC : C' = C := by rw [hm] at hm'; exact Value.ref.inj (Option.some.inj hm')
      rw [hCC] at hcls
      have KS : K.In s.heap := KX.keeps R.base
      have I : InstAt s.heap e oe C none := ⟨he, hcls, (by unfold notCls; rw [hd]), by rw [hdict]; trivial⟩
      have fin : ∀ tk, Q (.bool (kinB c D)) { s with toks := tk } := fun tk => ok _ _ _ _ _ tk hK R (.refl ..) (.ofBool _)
      rcases hD with hD | rfl
      · obtain ⟨Dc, fD⟩ := fm.one D (by simpa using hD)
        have hmD := mg_of KX cx.g fD.at_
        unfold Cx.val at hv
        rw [hmD] at hv
        cases hv
        refine ex_call fm f KS I (fun _ _ X' => looks_typeIn X' fD.typ) (fun _ _ X' => isType_in X' fD.cls) (fun q => ?_) (fun _ _ X' => looks_subIn X' (f.sub D (by simpa using hD) Dc fD.at_)) fin
        have q := Value.ref.inj (beq_iff_eq.mp q)
        have s1 := f.sub D (by simpa using hD) Dc fD.at_
        have s2 := f.sub c (by simpa using hc) C f.at_
        rw [← q, s2, kinB_self] at s1
        exact (Option.some.inj s1).symm
      · have hve := b ("ValueError", .type "ValueError") (by simp [biTable])
        rw [hv] at hve
        cases hve
        refine ex_call fm f KS I (fun _ _ _ => Looks.of_pure (by kernel_rfl)) (fun _ _ _ => Looks.of_pure rfl) (fun q => by cases beq_iff_eq.mp q) (fun _ _ X' => ?_) fin
        have : kinB c ("ValueError" : Str) = true := by unfold kinB; simp
        rw [this]
        exact looks_subIn X' f.ve
  · exact h3 vs σ K hT A s ρ vals Q E ar R hall ok er
end
end Mine

set_option Elab.async false
set_option autoImplicit false
set_option linter.unusedVariables false
namespace Mine
open PySem PySem.Spec PySem.Calls PyProof.Rows

theorem ofString_inj {a b : String} : Str.ofString a = Str.ofString b ↔ a = b := by
  constructor
  · intro h
    rw [Str.ofString_eq_toList, Str.ofString_eq_toList] at h
    have h1 : (a.toList.map Char.toNat).toArray = (b.toList.map Char.toNat).toArray := by injection h
    have h2 : a.toList.map Char.toNat = b.toList.map Char.toNat := by simpa using h1
    have h3 : a.toList = b.toList := (List.map_inj_right (f := Char.toNat) fun x y q => by
      have : x.val = y.val := UInt32.toNat_inj.mp q
      exact Char.ext this).mp h2
    exact String.toList_inj.mp h3
  · rintro rfl; rfl
theorem ofString_beq {a b : String} : (Str.ofString a == Str.ofString b) = (a == b) := by
  rw [Bool.eq_iff_iff, beq_iff_eq, beq_iff_eq, ofString_inj]

/-- a table of contracts -/
noncomputable def Tab := List (Str × Contract)

theorem cx_of_top {p prog : Program} {w : World} {loose : List Str} {mean : ExcName → Option Value} {mg mb : Str → Option Value} {h : Heap} (T : Top p loose mean mg mb h) : CxOk ⟨prog, w, h, mg, mb⟩ := ⟨T.g, T.b, T.nolimit⟩

theorem boot_table : (biTable.all fun q => (bootBuiltins q.1 == some q.2) && q.1 != ("__name__" : Str)) = true := by decide +kernel

noncomputable def freeB (p : Program) (loose : List Str) (x : Str) : Bool :=
  !startupNames.contains x && !loose.contains x && !((recsOf p).map (·.name)).contains x && !((litsOf p).map (·.1)).contains x && !((clssOf p loose).map (·.name)).contains x

theorem free_of_top {p : Program} {loose : List Str} {mean : ExcName → Option Value} {mg mb : Str → Option Value} {h : Heap} (T : Top p loose mean mg mb h) {x : Str} (hx : freeB p loose x = true) : mg x = none := by
  unfold freeB at hx
  simp only [Bool.and_eq_true, Bool.not_eq_true', List.contains_eq_mem, decide_eq_false_iff_not] at hx
  obtain ⟨⟨⟨⟨h1, h2⟩, h3⟩, h4⟩, h5⟩ := hx
  exact T.free x h1 h2 h3 h4 h5

theorem cxb_of_top {p prog : Program} {w : World} {loose : List Str} {mean : ExcName → Option Value} {mg mb : Str → Option Value} {h : Heap} (T : Top p loose mean mg mb h)
    (hf : (biTable.all fun q => freeB p loose q.1) = true) : CxB ⟨prog, w, h, mg, mb⟩ := by
  intro q hq
  have h1 := List.all_eq_true.mp hf q hq
  have h2 := List.all_eq_true.mp boot_table q hq
  simp only [Bool.and_eq_true, beq_iff_eq, bne_iff_ne, ne_eq] at h2
  show (mg q.1).or (mb q.1) = _
  rw [free_of_top T h1]
  show mb q.1 = _
  rw [T.builtins q.1 h2.2]
  exact h2.1

theorem isFn_of_top {p prog : Program} {w : World} {loose : List Str} {mean : ExcName → Option Value} {mg mb : Str → Option Value} {h : Heap} (T : Top p loose mean mg mb h) {f : Str} {params : Arguments} {body : List Stmt} {scope : Scope} (j : Nat)
    (hr : ((recsOf p)[j]?).map (fun r => (r.name, r.params, r.body, r.scope)) = some (f, params, body, scope)) (h1 : params.posonlyargs = []) (h2 : params.vararg = none) (h3 : params.kwonlyargs = []) (h4 : params.kwarg = none) :
    IsFn ⟨prog, w, h, mg, mb⟩ f (params.args.map (·.arg)) body scope := by
  cases e : (recsOf p)[j]? with
  | none => rw [e] at hr; cases hr
  | some r =>
    rw [e] at hr
    obtain ⟨e1, e2, e3, e4⟩ : r.name = f ∧ r.params = params ∧ r.body = body ∧ r.scope = scope := by
      have := Option.some.inj hr
      simp only [Prod.mk.injEq] at this
      exact this
    obtain ⟨a, o, pm, code, doc, q1, q2, q3, q4⟩ := T.fn _ (List.mem_of_getElem? e)
    rw [e1, e2, e3, e4] at q3
    rw [e1] at q1 q4
    exact ⟨⟨a, o, pm, code, doc, params, q1, q2, q3, q4, h1, rfl, h2, h3, h4⟩⟩

theorem const_of_top {p prog : Program} {w : World} {loose : List Str} {mean : ExcName → Option Value} {mg mb : Str → Option Value} {h : Heap} (T : Top p loose mean mg mb h) {x : Str} {d : PyData} (hv : valOf p x = some d) :
    ∃ v, Cx.val ⟨prog, w, h, mg, mb⟩ x = some v ∧ ∀ h, Reads h v d [] := by
  obtain ⟨v, h1, h2⟩ := T.const x d hv
  exact ⟨v, by show (mg x).or (mb x) = _; rw [h1]; rfl, h2⟩
end Mine

set_option Elab.async false
set_option autoImplicit false
set_option linter.unusedVariables false
namespace Mine
open PySem PySem.Spec PySem.Calls PyProof.Rows

section
variable {Γ : Sig} {n : Nat} {sc : Kinds} {m : Loc} {σ : Store} {K : OutE → Prop} {f : Bool → Store → Prop} {p q : Pos}

end

theorem ValidF.mono {X : Cx} {k k' : Nat} {x : Str} {T : Contract} (hk : k ≤ k') (h : ValidF X k x T) : ValidF X k' x T := by
  obtain ⟨f, h1, h2, h3⟩ := h
  refine ⟨f, h1, h2, fun vs σ K hT A s ρ vals Q E ar => h3 vs σ K hT A s ρ vals Q E ?_⟩
  exact { ar with
    handled := fun q => ar.handled (by omega)
    depth := by have := ar.depth; omega
    units := by have := ar.units; omega }
noncomputable def Sig.add (Γ : Sig) (x : Str) (T : Contract) : Sig := { Γ with fn := fun y => if y = x then some T else Γ.fn y }

theorem SigOk.add {X : Cx} {k : Nat} {Γ : Sig} {x : Str} {T : Contract} (ok : SigOk X k Γ) (h : ValidF X (k + 1) x T) : SigOk X (k + 1) (Γ.add x T) where
  exc := ok.exc
  kin := ok.kin
  calm := fun h => Nat.le_succ_of_le (ok.calm h)
  hand := ok.hand
  fn := fun y S hy => by
    unfold Sig.add at hy
    dsimp only at hy
    split at hy
    · rename_i e; cases hy; rw [e]; exact h
    · exact (ok.fn y S hy).mono (Nat.le_succ k)
  const := ok.const
  knows := ok.knows
end Mine

set_option Elab.async false
set_option autoImplicit false
set_option linter.unusedVariables false
namespace Mine
open PySem PySem.Spec PySem.Calls PyProof.Rows

noncomputable def tyNames : List Str := ["int", "bool", "str", "tuple", "list"]

noncomputable def emptySig (consts : List (Str × PyData)) (fam : List Str) (calm : Bool) (fnH : Str → Option Contract) : Sig where
  fn := fun _ => none
  const := fun x => consts.lookup x
  knows := fun x => tyNames.contains x || (fam.contains x || x == ("ValueError" : Str))
  exc := fun x => fam.contains x
  calm := calm
  fnH := fnH

/-- what a handler's functions may call -/
noncomputable def handSig (consts : List (Str × PyData)) (fam : List Str) : Sig := (emptySig consts fam false fun _ => none).add ("isinstance" : Str) (isiT fam)

noncomputable def baseSig (consts : List (Str × PyData)) (fam : List Str) (fnH : Str → Option Contract) : Sig :=
  ((emptySig consts fam true fnH).add ("len" : Str) lenT).add ("isinstance" : Str) (isiT fam)

theorem emptySig_ok {X : Cx} {k : Nat} {calm : Bool} {consts : List (Str × PyData)} {fam : List Str} {fnH : Str → Option Contract} {p : Program} {loose : List Str} (b : CxB X) (cx : CxOk X) (ce : CxE fam X) (T : W.TopRead p loose X.mg X.mb X.B)
    (hc : ∀ q ∈ consts, ∃ v, X.val q.1 = some v ∧ ∀ h, Reads h v q.2 []) (hk : calm = true → 100 ≤ k) (hh : ∀ x T, fnH x = some T → ValidF X 99 x T) : SigOk X k (emptySig consts fam calm fnH) where
  fn := fun x T h => by cases h
  const := fun x d h => hc (x, d) (mem_lookup h)
  exc := fun c h => ce.exc T h
  kin := fun c D h1 h2 => ce.kin cx h1 h2
  calm := hk
  hand := hh
  knows := fun x h => by
    unfold emptySig at h
    dsimp only at h
    rcases Bool.or_eq_true_iff.mp h with h | h
    · have h : x ∈ tyNames := by simpa using h
      simp only [tyNames, List.mem_cons, List.not_mem_nil, or_false] at h
      rcases h with rfl | rfl | rfl | rfl | rfl
      · exact ⟨_, b ("int", .type "int") (by simp [biTable])⟩
      · exact ⟨_, b ("bool", .type "bool") (by simp [biTable])⟩
      · exact ⟨_, b ("str", .type "str") (by simp [biTable])⟩
      · exact ⟨_, b ("tuple", .type "tuple") (by simp [biTable])⟩
      · exact ⟨_, b ("list", .type "list") (by simp [biTable])⟩
    · rcases Bool.or_eq_true_iff.mp h with h | h
      · obtain ⟨C, O⟩ := ce.exc T h
        exact ⟨_, by unfold Cx.val; rw [O.bound]; rfl⟩
      · rw [beq_iff_eq.mp h]
        exact ⟨_, b ("ValueError", .type "ValueError") (by simp [biTable])⟩

theorem handSig_ok {X : Cx} {consts : List (Str × PyData)} {fam : List Str} {p : Program} {loose : List Str} (b : CxB X) (cx : CxOk X) (ce : CxE fam X) (T : W.TopRead p loose X.mg X.mb X.B)
    (hc : ∀ q ∈ consts, ∃ v, X.val q.1 = some v ∧ ∀ h, Reads h v q.2 []) : SigOk X 1 (handSig consts fam) :=
  (emptySig_ok (k := 0) b cx ce T hc (fun h => by cases h) (fun x T h => by cases h)).add (valid_isiX b ce cx)

theorem baseSig_ok {X : Cx} {consts : List (Str × PyData)} {fam : List Str} {fnH : Str → Option Contract} {p : Program} {loose : List Str} (b : CxB X) (cx : CxOk X) (ce : CxE fam X) (T : W.TopRead p loose X.mg X.mb X.B)
    (hc : ∀ q ∈ consts, ∃ v, X.val q.1 = some v ∧ ∀ h, Reads h v q.2 []) (hh : ∀ x T, fnH x = some T → ValidF X 99 x T) : SigOk X 102 (baseSig consts fam fnH) :=
  ((emptySig_ok (k := 100) b cx ce T hc (fun _ => Nat.le_refl _) hh).add (valid_len b)).add (valid_isiX b ce cx)
end Mine

set_option Elab.async false
set_option autoImplicit false
set_option linter.unusedVariables false
namespace Mine
open PySem PySem.Spec PySem.Calls PyProof.Rows

noncomputable def isLocB (sc : Kinds) (x : Str) : Bool := match sc x with
  | some .local | some .cell | some .free => true
  | _ => false
noncomputable def isGlobB (sc : Kinds) (x : Str) : Bool := match sc x with
  | some .globalImplicit => true
  | _ => false
noncomputable def isBindB (sc : Kinds) (x : Str) : Bool := match sc x with
  | some .local | some .cell => true
  | _ => false
noncomputable def isOwnB (sc : Kinds) (x : Str) : Bool := match sc x with
  | some .local => true
  | _ => false
theorem isOwn {sc : Kinds} {x : Str} (h : isOwnB sc x = true) : sc x = some .local := by
  unfold isOwnB at h; split at h <;> first | assumption | cases h
theorem drop_ne {m : Loc} {x y : Str} {r : Option V} (h : (y == x) = false) (hr : m y = r) : drop m x y = r := by
  unfold drop; rw [if_neg (by simpa using h)]; exact hr
theorem isGlob {sc : Kinds} {x : Str} (h : isGlobB sc x = true) : sc x = some .globalImplicit := by
  unfold isGlobB at h; split at h <;> first | assumption | cases h
theorem isBind {sc : Kinds} {x : Str} (h : isBindB sc x = true) : bindable sc x := by
  unfold isBindB at h; split at h <;> first | exact .inl (by assumption) | exact .inr (by assumption) | cases h

theorem upd_eq {m : Loc} {x : Str} {v : V} : upd m x v x = some v := if_pos rfl
theorem upd_ne {m : Loc} {x y : Str} {v : V} {r : Option V} (h : (y == x) = false) (hr : m y = r) : upd m x v y = r := by
  unfold upd; rw [if_neg (fun e => by rw [e] at h; simp at h)]; exact hr
theorem look_eq {x : Str} {v : V} {xs : List Str} {vs : List V} : (List.lookup x (List.zip (x :: xs) (v :: vs))) = some v := by
  rw [List.zip_cons_cons, List.lookup_cons, beq_self_eq_true]
theorem look_ne {x y : Str} {v : V} {xs : List Str} {vs : List V} {r : Option V} (h : (y == x) = false) (hr : List.lookup y (List.zip xs vs) = r) : (List.lookup y (List.zip (x :: xs) (v :: vs))) = r := by
  rw [List.zip_cons_cons, List.lookup_cons, h]; exact hr
section
variable {Γ : Sig} {n : Nat} {sc : Kinds} {m : Loc} {σ : Store} {K : OutE → Prop} {f : Bool → Store → Prop} {p q : Pos}

theorem r_thenE {g : V → Store → Prop} {v : V} (h : g v σ) : thenE K g (.val v σ) := h
theorem r_next {K : OutS → Prop} {J : Loc → Store → Prop} (h : J m σ) : loopS K J (.next m σ) := h
theorem r_ret {K : OutS → Prop} {J : Loc → Store → Prop} {v : V} (h : K (.ret v σ)) : loopS K J (.ret v σ) := h
theorem r_nil {sv : Sv} {K : OutS → Prop} (h : K (.next m σ)) : wpSs sv [] m σ K := h
theorem r_cons {sv : Sv} {s : Stmt} {r : List Stmt} {K : OutS → Prop} (h : sv s m σ (loopS K fun m σ => wpSs sv r m σ K)) : wpSs sv (s :: r) m σ K := h

theorem r_Return {e : Expr} {K : OutS → Prop} (h : wpE Γ n sc e m σ (thenE (liftS K m) fun v σ => K (.ret v σ))) : wpS Γ (n + 1) sc (.Return (some e) p) m σ K := h
theorem r_Assign {x : Str} {e : Expr} {K : OutS → Prop} (hb : isBindB sc x = true) (h : wpE Γ n sc e m σ (thenE (liftS K m) fun v σ => K (.next (upd m x v) σ))) : wpS Γ (n + 1) sc (.Assign [.Name x q] e p) m σ K := ⟨isBind hb, h⟩
theorem r_If {t : Expr} {b e : List Stmt} {K : OutS → Prop} (h : wpT Γ n sc t m σ (liftS K m) fun c σ => (c = true → wpSs (wpS Γ n sc) b m σ K) ∧ (c = false → wpSs (wpS Γ n sc) e m σ K)) : wpS Γ (n + 1) sc (.If t b e p) m σ K := h
theorem r_none {u : Nat} (h : K (.val (.d .none) σ)) : wpE Γ (n + 1) sc (.Constant .none u p) m σ K := h
theorem r_bool {u : Nat} {b : Bool} (h : K (.val (.d (.bool b)) σ)) : wpE Γ (n + 1) sc (.Constant (.bool b) u p) m σ K := h
theorem r_int {u : Nat} {b : Int} (h : K (.val (.d (.int b)) σ)) : wpE Γ (n + 1) sc (.Constant (.int b) u p) m σ K := h
theorem r_str {u : Nat} {b : Str} (h : K (.val (.d (.str b)) σ)) : wpE Γ (n + 1) sc (.Constant (.str b) u p) m σ K := h
theorem r_name {x : Str} {v : V} (h1 : isLocB sc x = true) (h2 : m x = some v) (h : K (.val v σ)) : wpE Γ (n + 1) sc (.Name x p) m σ K := by
  show nameW Γ sc x m σ K
  unfold isLocB at h1; unfold nameW
  split at h1
  · rename_i e; rw [e]; exact ⟨v, h2, h⟩
  · rename_i e; rw [e]; exact ⟨v, h2, h⟩
  · rename_i e; rw [e]; exact ⟨v, h2, h⟩
  · cases h1
theorem r_const {x : Str} {d : PyData} (h1 : isGlobB sc x = true) (h2 : Γ.const x = some d) (h : K (.val (.d d) σ)) : wpE Γ (n + 1) sc (.Name x p) m σ K := by
  show nameW Γ sc x m σ K
  unfold nameW; rw [isGlob h1]; dsimp only; rw [h2]; exact h
theorem r_glob {x : Str} (h1 : isGlobB sc x = true) (h2 : Γ.const x = none) (h3 : Γ.knows x = true) (h : K (.val (.glob x) σ)) : wpE Γ (n + 1) sc (.Name x p) m σ K := by
  show nameW Γ sc x m σ K
  unfold nameW; rw [isGlob h1]; dsimp only; rw [h2]; exact ⟨h3, h⟩
theorem r_BinOp {l r : Expr} {op : Operator} (h : wpE Γ n sc l m σ (thenE K fun a σ => wpE Γ n sc r m σ (thenE K fun b σ => binW op a b σ K))) : wpE Γ (n + 1) sc (.BinOp l op r p) m σ K := h
theorem r_UnaryOp {x : Expr} {op : UnaryOp} (h : wpE Γ n sc x m σ (thenE K fun a σ => unW op a σ K)) : wpE Γ (n + 1) sc (.UnaryOp op x p) m σ K := h
theorem r_BoolOp {vs : List Expr} {op : BoolOp} (h : wpBools (wpE Γ n sc) op vs m σ K) : wpE Γ (n + 1) sc (.BoolOp op vs p) m σ K := h
theorem r_Compare {l : Expr} {ops : List CmpOp} {rs : List Expr} (h : wpE Γ n sc l m σ (thenE K fun a σ => wpCmps (wpE Γ n sc) ops rs a m σ K fun r σ => K (.val (.d (.bool r)) σ))) : wpE Γ (n + 1) sc (.Compare l ops rs p) m σ K := h
theorem r_List {es : List Expr} (h1 : es.all noStar = true) (h : wpEs (wpE Γ n sc) es m σ K fun vs σ => vs.length ≤ 1000000 ∧ K (.val (.ref σ.length) (σ ++ [.lst vs]))) : wpE Γ (n + 1) sc (.List es p) m σ K := ⟨h1, h⟩
theorem r_Tuple {es : List Expr} {b : _} (h1 : es.all noStar = true) (h : wpEs (wpE Γ n sc) es m σ K fun vs σ => ∃ ds, vs = ds.map V.d ∧ ds.length ≤ 1000000 ∧ K (.val (.d (.tuple ds)) σ)) : wpE Γ (n + 1) sc (.Tuple es b p) m σ K := ⟨h1, h⟩
theorem r_Item {a i : Expr} (h1 : noSlice i = true) (h : wpE Γ n sc a m σ (thenE K fun o σ => wpE Γ n sc i m σ (thenE K fun j σ => itemW o j σ K))) : wpE Γ (n + 1) sc (.Subscript a i p) m σ K := ⟨h1, h⟩
theorem r_Call {x : Str} {args : List Expr} {T : Contract} (h1 : isGlobB sc x = true) (h2 : Γ.const x = none) (h3 : Γ.fn x = some T) (h4 : args.all noStar = true) (h : wpEs (wpE Γ n sc) args m σ K fun vs σ => T vs σ K) : wpE Γ (n + 1) sc (.Call (.Name x q) args [] p) m σ K := ⟨isGlob h1, h2, T, h3, h4, h⟩
theorem r_Dict (h : K (.val (.ref σ.length) (σ ++ [.dct]))) : wpE Γ (n + 1) sc (.Dict [] [] p) m σ K := ⟨rfl, rfl, h⟩
theorem r_Raise {c x : Str} {j : Nat} {p1 p2 p3 p4 : Pos} {K : OutS → Prop} (h1 : isGlobB sc c = true) (h2 : Γ.calm = true) (h3 : Γ.exc c = true) (h : K (.exn c m σ)) : wpS Γ (n + 1) sc (.Raise (some (.Call (.Name c p1) [.Constant (.str x) j p2] [] p3)) none p4) m σ K := ⟨isGlob h1, h2, h3, h⟩
theorem r_Try {x D : Str} {body hb : List Stmt} {b₀ : Stmt} {p1 p2 : Pos} {K : OutS → Prop} (h1 : isOwnB sc x = true) (h2 : isGlobB sc D = true) (h3 : Γ.exc D = true) (h4 : Γ.calm = true)
    (h : wpSs (wpS Γ n sc) body m σ (tryK K fun c m σ => (Γ.exc c = true ∧ kinB c D = true) ∧ wpSs (wpS Γ.hand n sc) (b₀ :: hb) (upd m x (.exc c)) σ (asK x K))) :
    wpS Γ (n + 1) sc (.Try body [.ExceptHandler (some (.Name D p1)) (some x) (b₀ :: hb) p2] [] [] p) m σ K := ⟨⟨isOwn h1, isGlob h2, h3, h4⟩, h⟩
theorem r_exn {K : OutS → Prop} {J : Loc → Store → Prop} {c : Str} (h : K (.exn c m σ)) : loopS K J (.exn c m σ) := h
theorem r_exnT {g : V → Store → Prop} {c : Str} (h : K (.exn c σ)) : thenE K g (.exn c σ) := h
theorem r_exnL {K : OutS → Prop} {c : Str} (h : K (.exn c m σ)) : liftS K m (.exn c σ) := h
theorem r_tryN {K : OutS → Prop} {H : Str → Loc → Store → Prop} (h : K (.next m σ)) : tryK K H (.next m σ) := h
theorem r_tryR {K : OutS → Prop} {H : Str → Loc → Store → Prop} {v : V} (h : K (.ret v σ)) : tryK K H (.ret v σ) := h
theorem r_tryE {K : OutS → Prop} {c D x : Str} {b : List Stmt} (h1 : Γ.exc c = true) (h2 : kinB c D = true) (h : wpSs (wpS Γ.hand n sc) b (upd m x (.exc c)) σ (asK x K)) :
    tryK K (fun c m σ => (Γ.exc c = true ∧ kinB c D = true) ∧ wpSs (wpS Γ.hand n sc) b (upd m x (.exc c)) σ (asK x K)) (.exn c m σ) := ⟨⟨h1, h2⟩, h⟩
theorem r_asN {K : OutS → Prop} {x : Str} (h : K (.next (drop m x) σ)) : asK x K (.next m σ) := h
theorem r_asR {K : OutS → Prop} {x : Str} {v : V} (h : K (.ret v σ)) : asK x K (.ret v σ) := h
theorem r_addS {x y : Str} (h1 : Nat.ble (x.length + y.length) 100000 = true) (h : K (.val (.d (.str (x ++ y))) σ)) : binW .Add (.d (.str x)) (.d (.str y)) σ K := ⟨by have := Nat.le_of_ble_eq_true h1; rw [sizeLine_eq]; omega, h⟩
noncomputable def famAll : List Str := ["BidError", "BadWish", "BadPrice", "BadPieces", "Uneven", "NoSuch", "Unread"]
noncomputable abbrev isiAllT : Contract := isiT famAll
theorem r_isiE {c D : Str} (h1 : famAll.contains c = true) (h2 : famAll.contains D = true ∨ D = ("ValueError" : Str)) (h : K (.val (.d (.bool (kinB c D))) σ)) : isiT famAll [.exc c, .glob D] σ K := ⟨⟨h1, h2⟩, h⟩
theorem r_len {vs : List V} {P : Prop} (h1 : Nat.ble vs.length 1000000 = true) (h : P) : vs.length ≤ 1000000 ∧ P := ⟨Nat.le_of_ble_eq_true h1, h⟩
theorem r_tup1 {a : PyData} (h : K (.val (.d (.tuple [a])) σ)) : ∃ ds, [V.d a] = ds.map V.d ∧ ds.length ≤ 1000000 ∧ K (.val (.d (.tuple ds)) σ) := ⟨[a], rfl, by simp, h⟩
theorem r_tup2 {a b : PyData} (h : K (.val (.d (.tuple [a, b])) σ)) : ∃ ds, [V.d a, V.d b] = ds.map V.d ∧ ds.length ≤ 1000000 ∧ K (.val (.d (.tuple ds)) σ) := ⟨[a, b], rfl, by simp, h⟩
theorem r_tup3 {a b c : PyData} (h : K (.val (.d (.tuple [a, b, c])) σ)) : ∃ ds, [V.d a, V.d b, V.d c] = ds.map V.d ∧ ds.length ≤ 1000000 ∧ K (.val (.d (.tuple ds)) σ) := ⟨[a, b, c], rfl, by simp, h⟩
theorem r_tup4 {a b c d : PyData} (h : K (.val (.d (.tuple [a, b, c, d])) σ)) : ∃ ds, [V.d a, V.d b, V.d c, V.d d] = ds.map V.d ∧ ds.length ≤ 1000000 ∧ K (.val (.d (.tuple ds)) σ) := ⟨[a, b, c, d], rfl, by simp, h⟩
theorem r_es_nil {ev : Ev} {g : List V → Store → Prop} (h : g [] σ) : wpEs ev [] m σ K g := h
theorem r_es_cons {ev : Ev} {e : Expr} {r : List Expr} {g : List V → Store → Prop} (h : ev e m σ (thenE K fun v σ => wpEs ev r m σ K fun vs σ => g (v :: vs) σ)) : wpEs ev (e :: r) m σ K g := h
theorem r_cmp1 {ev : Ev} {op : CmpOp} {e : Expr} {a : V} {g : Bool → Store → Prop} (h1 : behindInMarks op e = false) (h : ev e m σ (thenE K fun b σ => cmpW op a b σ fun r => g r σ)) : wpCmps ev [op] [e] a m σ K g := ⟨h1, h⟩
theorem r_cmp2 {ev : Ev} {op op' : CmpOp} {ops : List CmpOp} {e e' : Expr} {es : List Expr} {a : V} {g : Bool → Store → Prop} (h : ev e m σ (thenE K fun b σ => cmpW op a b σ fun r => if r then wpCmps ev (op' :: ops) (e' :: es) b m σ K g else g false σ)) : wpCmps ev (op :: op' :: ops) (e :: e' :: es) a m σ K g := h
theorem r_lt {i j : Int} {g : Bool → Prop} (h : g (decide (i < j))) : cmpW .Lt (.d (.int i)) (.d (.int j)) σ g := h
theorem r_le {i j : Int} {g : Bool → Prop} (h : g (decide (i ≤ j))) : cmpW .LtE (.d (.int i)) (.d (.int j)) σ g := h
theorem r_ge {i j : Int} {g : Bool → Prop} (h : g (decide (j ≤ i))) : cmpW .GtE (.d (.int i)) (.d (.int j)) σ g := h
theorem r_eqI {i j : Int} {g : Bool → Prop} (h : g (decide (i = j))) : cmpW .Eq (.d (.int i)) (.d (.int j)) σ g := ⟨_, _, rfl, rfl, rfl, rfl, h⟩
theorem r_neI {i j : Int} {g : Bool → Prop} (h : g (!decide (i = j))) : cmpW .NotEq (.d (.int i)) (.d (.int j)) σ g := ⟨_, _, rfl, rfl, rfl, rfl, h⟩
theorem shaped_str {x : Str} (h : PyData.strOk x = true) : SeqAt.shaped (.str x) = true := by
  unfold SeqAt.shaped
  rw [Bool.and_eq_true]
  exact ⟨by simpa [PyData.canLay0] using h, by simp [PyData.depth]⟩
theorem r_eqS {i j : Str} {g : Bool → Prop} (h1 : PyData.strOk i = true) (h2 : PyData.strOk j = true) (h : g (i == j)) : cmpW .Eq (.d (.str i)) (.d (.str j)) σ g := ⟨_, _, rfl, rfl, shaped_str h1, shaped_str h2, h⟩
theorem r_neS {i j : Str} {g : Bool → Prop} (h1 : PyData.strOk i = true) (h2 : PyData.strOk j = true) (h : g (!(i == j))) : cmpW .NotEq (.d (.str i)) (.d (.str j)) σ g := ⟨_, _, rfl, rfl, shaped_str h1, shaped_str h2, h⟩
theorem r_eqB {i j : Bool} {g : Bool → Prop} (h : g (i == j)) : cmpW .Eq (.d (.bool i)) (.d (.bool j)) σ g := ⟨_, _, rfl, rfl, rfl, rfl, h⟩
theorem r_neB {i j : Bool} {g : Bool → Prop} (h : g (!(i == j))) : cmpW .NotEq (.d (.bool i)) (.d (.bool j)) σ g := ⟨_, _, rfl, rfl, rfl, rfl, h⟩
theorem r_add {i j : Int} (h : K (.val (.d (.int (i + j))) σ)) : binW .Add (.d (.int i)) (.d (.int j)) σ K := h
theorem r_sub {i j : Int} (h : K (.val (.d (.int (i - j))) σ)) : binW .Sub (.d (.int i)) (.d (.int j)) σ K := h
theorem r_div {i j : Int} (h1 : 0 < j ∧ j < 1073741824) (h : K (.val (.d (.int (i / j))) σ)) : binW .FloorDiv (.d (.int i)) (.d (.int j)) σ K := ⟨h1, by rw [Int.fdiv_eq_ediv_of_nonneg _ (by omega)]; exact h⟩
theorem r_mod {i j : Int} (h1 : 0 < j) (h : K (.val (.d (.int (i % j))) σ)) : binW .Mod (.d (.int i)) (.d (.int j)) σ K := ⟨by omega, by rw [Int.fmod_eq_emod_of_nonneg _ (by omega)]; exact h⟩
theorem r_usub {i : Int} (h : K (.val (.d (.int (-i))) σ)) : unW .USub (.d (.int i)) σ K := h
theorem r_not {b : Bool} (h : K (.val (.d (.bool (!b))) σ)) : unW .Not (.d (.bool b)) σ K := ⟨b, rfl, h⟩
theorem r_truth {b : Bool} {g : Bool → Prop} (h : g b) : ∃ c, truthW (.d (.bool b)) = some c ∧ g c := ⟨b, rfl, h⟩
theorem r_itemL {l : Nat} {k : Int} {xs : List V} {v : V} (h1 : itemsAt σ l = some xs) (h2 : 0 ≤ k ∧ k < 2 ^ 63) (h3 : xs[k.toNat]? = some v) (h : K (.val v σ)) : itemW (.ref l) (.d (.int k)) σ K := ⟨xs, v, h1, h2, h3, h⟩
theorem r_itemT {k : Int} {xs : List PyData} {x : PyData} (h2 : 0 ≤ k ∧ k < 2 ^ 63) (h3 : xs[k.toNat]? = some x) (h : K (.val (.d x) σ)) : itemW (.d (.tuple xs)) (.d (.int k)) σ K := ⟨x, h2, h3, h⟩

theorem t_Compare {l : Expr} {ops : List CmpOp} {rs : List Expr} (h : wpE Γ n sc l m σ (thenE K fun a σ => wpCmps (wpE Γ n sc) ops rs a m σ K f)) : wpT Γ (n + 1) sc (.Compare l ops rs p) m σ K f := h
theorem t_BoolOp {vs : List Expr} {op : BoolOp} (h : wpAll (wpT Γ n sc) op vs m σ K f) : wpT Γ (n + 1) sc (.BoolOp op vs p) m σ K f := h
theorem t_Not {x : Expr} (h : wpT Γ n sc x m σ K fun b σ => f (!b) σ) : wpT Γ (n + 1) sc (.UnaryOp .Not x p) m σ K f := h
theorem t_Call {g : Expr} {args : List Expr} {kws : List Keyword} (h : wpE Γ n sc (.Call g args kws p) m σ (thenE K fun v σ => ∃ b, truthW v = some b ∧ f b σ)) : wpT Γ (n + 1) sc (.Call g args kws p) m σ K f := h
theorem t_Name {x : Str} (h : wpE Γ n sc (.Name x p) m σ (thenE K fun v σ => ∃ b, truthW v = some b ∧ f b σ)) : wpT Γ (n + 1) sc (.Name x p) m σ K f := h
theorem t_and_nil {tv : Tv} (h : f true σ) : wpAll tv .And [] m σ K f := h
theorem t_or_nil {tv : Tv} (h : f false σ) : wpAll tv .Or [] m σ K f := h
theorem t_and_cons {tv : Tv} {e : Expr} {r : List Expr} (h : tv e m σ K fun b σ => if b then wpAll tv .And r m σ K f else f false σ) : wpAll tv .And (e :: r) m σ K f := by
  have e : (fun b σ => if b then wpAll tv .And r m σ K f else f false σ : Bool → Store → Prop) = fun b σ => (match BoolOp.And, b with
      | .And, false => f false σ
      | .Or, true => f true σ
      | _, _ => wpAll tv .And r m σ K f) := by funext b σ; cases b <;> rfl
  rw [e] at h; exact h
theorem t_or_cons {tv : Tv} {e : Expr} {r : List Expr} (h : tv e m σ K fun b σ => if b then f true σ else wpAll tv .Or r m σ K f) : wpAll tv .Or (e :: r) m σ K f := by
  have e : (fun b σ => if b then f true σ else wpAll tv .Or r m σ K f : Bool → Store → Prop) = fun b σ => (match BoolOp.Or, b with
      | .And, false => f false σ
      | .Or, true => f true σ
      | _, _ => wpAll tv .Or r m σ K f) := by funext b σ; cases b <;> rfl
  rw [e] at h; exact h
theorem b_one {ev : Ev} {op : BoolOp} {e : Expr} (h : ev e m σ K) : wpBools ev op [e] m σ K := h
theorem b_and {ev : Ev} {e e' : Expr} {r : List Expr} (h : ev e m σ (thenE K fun v σ => ∃ b, truthW v = some b ∧ (if b then wpBools ev .And (e' :: r) m σ K else K (.val v σ)))) : wpBools ev .And (e :: e' :: r) m σ K := by
  have e : (fun v σ => ∃ b, truthW v = some b ∧ (if b then wpBools ev .And (e' :: r) m σ K else K (.val v σ)) : V → Store → Prop) = fun v σ => ∃ b, truthW v = some b ∧ (match BoolOp.And, b with
      | .And, false | .Or, true => K (.val v σ)
      | _, _ => wpBools ev .And (e' :: r) m σ K) := by funext v σ; congr 1; funext b; cases b <;> rfl
  rw [e] at h; exact h
theorem b_or {ev : Ev} {e e' : Expr} {r : List Expr} (h : ev e m σ (thenE K fun v σ => ∃ b, truthW v = some b ∧ (if b then K (.val v σ) else wpBools ev .Or (e' :: r) m σ K))) : wpBools ev .Or (e :: e' :: r) m σ K := by
  have e : (fun v σ => ∃ b, truthW v = some b ∧ (if b then K (.val v σ) else wpBools ev .Or (e' :: r) m σ K) : V → Store → Prop) = fun v σ => ∃ b, truthW v = some b ∧ (match BoolOp.Or, b with
      | .And, false | .Or, true => K (.val v σ)
      | _, _ => wpBools ev .Or (e' :: r) m σ K) := by funext v σ; congr 1; funext b; cases b <;> rfl
  rw [e] at h; exact h
theorem r_if {b : Bool} {P Q : Prop} (h1 : b = true → P) (h2 : b = false → Q) : if b then P else Q := by cases b with
  | true => exact h1 rfl
  | false => exact h2 rfl
theorem r_ift {b : Bool} {P Q : Prop} (h : b = true) (hp : P) : if b = true then P else Q := by rw [if_pos h]; exact hp
theorem r_iff {b : Bool} {P Q : Prop} (h : b = false) (hp : Q) : if b = true then P else Q := by rw [if_neg (by rw [h]; decide)]; exact hp
theorem r_ist {b : Bool} {P Q : Prop} (h : b = true) (hp : P) : (b = true → P) ∧ (b = false → Q) := ⟨fun _ => hp, fun q => by rw [h] at q; cases q⟩
theorem r_isf {b : Bool} {P Q : Prop} (h : b = false) (hp : Q) : (b = true → P) ∧ (b = false → Q) := ⟨fun q => (by rw [h] at q; cases q), fun _ => hp⟩
theorem r_is {b : Bool} {P Q : Prop} (h1 : b = true → P) (h2 : b = false → Q) : (b = true → P) ∧ (b = false → Q) := ⟨h1, h2⟩
theorem r_if_true {P Q : Prop} (h : P) : if true = true then P else Q := h
theorem r_if_false {P Q : Prop} (h : Q) : if false = true then P else Q := h
end
end Mine

set_option Elab.async false
set_option autoImplicit false
set_option linter.unusedVariables false
namespace Mine
open PySem PySem.Spec PySem.Calls PyProof.Rows

section
variable {Γ : Sig} {n : Nat} {sc : Kinds} {m : Loc} {σ : Store} {p q : Pos} {src : V}

end

section
variable {σ : Store}
theorem itemsAt_append {i : Nat} {xs : List V} {c : Cell} (h : itemsAt σ i = some xs) : itemsAt (σ ++ [c]) i = some xs := by
  unfold itemsAt at h ⊢
  cases e : σ[i]? with
  | none => rw [e] at h; cases h
  | some a =>
    have := (List.getElem?_eq_some_iff.mp e).1
    rw [List.getElem?_append_left this, e]; rw [e] at h; exact h
theorem itemsAt_new {xs : List V} : itemsAt (σ ++ [.lst xs]) σ.length = some xs := by
  unfold itemsAt; simp [Cell.list?]

theorem get_new {c : Cell} : (σ ++ [c])[σ.length]? = some c := by simp

noncomputable def Grown (σ τ : Store) : Prop := ∃ r, τ = σ ++ r
theorem Grown.refl : Grown σ σ := ⟨[], by simp⟩
theorem Grown.snoc {τ : Store} {c : Cell} (h : Grown σ τ) : Grown σ (τ ++ [c]) := by
  obtain ⟨r, rfl⟩ := h
  exact ⟨r ++ [c], by simp⟩

/-- a value that is data comes back, and what was made on the way is left -/
theorem ret_data {K : OutE → Prop} {d : PyData} {τ : Store} (g : Grown σ τ) (h : K (.val (.d d) σ)) : retK σ K (.ret (.d d) τ) := by
  obtain ⟨r, rfl⟩ := g
  exact ⟨_, _, _, .pure, h⟩
theorem ret_none {K : OutE → Prop} {τ : Store} {m : Loc} (g : Grown σ τ) (h : K (.val (.d .none) σ)) : retK σ K (.next m τ) := by
  obtain ⟨r, rfl⟩ := g
  exact ⟨_, _, _, .pure, h⟩
theorem ret_exn {K : OutE → Prop} {c : Str} {τ : Store} {m : Loc} (g : Grown σ τ) (h : K (.exn c σ)) : retK σ K (.exn c m τ) := by
  obtain ⟨r, rfl⟩ := g
  exact ⟨_, _, .pure, h⟩
/-- a new dict comes back alone -/
theorem ret_dict {K : OutE → Prop} {τ : Store} {j : Nat} (g : Grown σ τ) (hj : σ.length ≤ j) (hx : τ[j]? = some .dct) (h : K (.val (.ref σ.length) (σ ++ [.dct]))) : retK σ K (.ret (.ref j) τ) := by
  obtain ⟨r, rfl⟩ := g
  obtain ⟨i, rfl⟩ := Nat.exists_eq_add_of_le hj
  rw [List.getElem?_append_right (by omega), Nat.add_sub_cancel_left] at hx
  exact ⟨_, _, _, .newCell hx trivial, h⟩
/-- a new list of data comes back alone -/
theorem ret_list {K : OutE → Prop} {xs : List V} {τ : Store} {j : Nat} (g : Grown σ τ) (hj : σ.length ≤ j) (hx : τ[j]? = some (.lst xs)) (hf : ∀ v ∈ xs, ∃ x, v = .d x) (h : K (.val (.ref σ.length) (σ ++ [.lst xs]))) : retK σ K (.ret (.ref j) τ) := by
  obtain ⟨r, rfl⟩ := g
  obtain ⟨i, rfl⟩ := Nat.exists_eq_add_of_le hj
  rw [List.getElem?_append_right (by omega), Nat.add_sub_cancel_left] at hx
  exact ⟨_, _, _, .newList hx hf, h⟩

theorem Grown.trans {τ υ : Store} (h : Grown σ τ) (g : Grown τ υ) : Grown σ υ := by
  obtain ⟨r, rfl⟩ := h
  obtain ⟨t, rfl⟩ := g
  exact ⟨r ++ t, by simp⟩
theorem Grown.len {τ : Store} (h : Grown σ τ) : σ.length ≤ τ.length := by
  obtain ⟨r, rfl⟩ := h
  simp
theorem Grown.items {τ : Store} {i : Nat} {xs : List V} (h : Grown σ τ) (e : itemsAt σ i = some xs) : itemsAt τ i = some xs := by
  obtain ⟨r, rfl⟩ := h
  unfold itemsAt at e ⊢
  cases q : σ[i]? with
  | none => rw [q] at e; cases e
  | some a =>
    rw [List.getElem?_append_left (List.getElem?_eq_some_iff.mp q).1, q]; rw [q] at e; exact e

theorem upd_self {m : Loc} {x : Str} {v : V} (h : m x = some v) : upd m x v = m := by
  funext y
  unfold upd
  split
  · rename_i e; rw [e, h]
  · rfl

section
variable {sv : Sv} {b : List Stmt} {m : Loc} {K : OutS → Prop} {R : Loc → Store → Prop}
/-- both ways of a test meet again: one name holds a whole number -/
theorem if_joinI {c : Bool} (x : Str) {a v₁ : Int} (hm : m x = some (.d (.int a))) (h1 : c = true → ∀ R : Loc → Store → Prop, R (upd m x (.d (.int v₁))) σ → wpSs sv b m σ (loopS K R)) (hR : R (upd m x (.d (.int (if c then v₁ else a)))) σ) :
    (c = true → wpSs sv b m σ (loopS K R)) ∧ (c = false → wpSs sv [] m σ (loopS K R)) := by
  cases c with
  | true => exact ⟨fun h => h1 h R hR, fun h => by cases h⟩
  | false =>
    refine ⟨fun h => (by cases h), fun _ => ?_⟩
    show R m σ
    rw [if_neg (by decide), upd_self hm] at hR
    exact hR
theorem if_joinS {c : Bool} (x : Str) {a v₁ : Str} (hm : m x = some (.d (.str a))) (h1 : c = true → ∀ R : Loc → Store → Prop, R (upd m x (.d (.str v₁))) σ → wpSs sv b m σ (loopS K R)) (hR : R (upd m x (.d (.str (if c then v₁ else a)))) σ) :
    (c = true → wpSs sv b m σ (loopS K R)) ∧ (c = false → wpSs sv [] m σ (loopS K R)) := by
  cases c with
  | true => exact ⟨fun h => h1 h R hR, fun h => by cases h⟩
  | false =>
    refine ⟨fun h => (by cases h), fun _ => ?_⟩
    show R m σ
    rw [if_neg (by decide), upd_self hm] at hR
    exact hR
/-- the same, where a way may leave new cells -/
theorem if_joinG {c : Bool} (x : Str) {a v₁ : Int} (hm : m x = some (.d (.int a))) (h1 : c = true → ∀ R : Loc → Store → Prop, (∀ τ, Grown σ τ → R (upd m x (.d (.int v₁))) τ) → wpSs sv b m σ (loopS K R)) (hR : ∀ τ, Grown σ τ → R (upd m x (.d (.int (if c then v₁ else a)))) τ) :
    (c = true → wpSs sv b m σ (loopS K R)) ∧ (c = false → wpSs sv [] m σ (loopS K R)) := by
  cases c with
  | true => exact ⟨fun h => h1 h R hR, fun h => by cases h⟩
  | false =>
    refine ⟨fun h => (by cases h), fun _ => ?_⟩
    show R m σ
    have := hR σ .refl
    rw [if_neg (by decide), upd_self hm] at this
    exact this
end

end
end Mine

set_option Elab.async false
set_option autoImplicit false
set_option linter.unusedVariables false
namespace Mine
open PySem PySem.Spec PySem.Calls PyProof.Rows PySem.W

/-- the contract that a law owes: over a list of whole numbers it says True -/
noncomputable def goalT : Contract := fun vs σ K => ∃ (i : Nat) (ns : List Int), vs = [.ref i] ∧ itemsAt σ i = some (ns.map vInt) ∧ ns.length ≤ 63 ∧ K (.val (.d (.bool true)) σ)

theorem has_of_well {X : Cx} {P : Params} {n : Nat} {ρ : Nat → Addr} {h : Heap} : ∀ {ns : List Int} {vs : List Value}, WellAll P h vs (ns.map WData.int) → HasAll X n ρ h (ns.map vInt) vs
  | [], _, w => by cases w; exact .nil
  | i :: r, _, w => by
    cases w with
    | cons h1 h2 =>
      cases h1
      exact .cons (.ofInt ..) (has_of_well h2)

theorem ofPys_ints : ∀ ns : List Int, ofPys (ns.map PyData.int) = ns.map WData.int
  | [] => by simp [ofPys]
  | i :: r => by simp [ofPys, ofPy, ofPys_ints r]

theorem law_end {X : Cx} {k : Nat} {fa l : Addr} {ns : List Int} {s : Shared} {P : Params} {Q E : Value → Shared → Prop} (hv : ValidF X k ("law" : Str) goalT) (hk : k < 400) (hmg : X.mg ("law" : Str) = some (.ref fa)) (hB : X.B = s.heap)
    (hw : Well P s.heap (.ref l) (ofPy (.list (ns.map PyData.int)))) (hn : ¬ ((63 : Nat) : Int) < (ns.length : Int)) (hQ : ∀ h' tk, (∀ b o, s.heap.get? b = some o → h'.get? b = some o) → Q (.bool true) { s with heap := h', toks := tk }) :
    wpAny (model X.prog X.w) callerA (call (.ref fa) [.ref l]) Q E s := by
  obtain ⟨f, h1, _, h3⟩ := hv
  have hf : f = .ref fa := by
    unfold Cx.val at h1
    rw [hmg] at h1
    exact (Option.some.inj h1).symm
  subst hf
  have hw' : Well P s.heap (.ref l) (.list (ns.map WData.int)) := by
    have e : ofPy (.list (ns.map PyData.int)) = .list (ns.map WData.int) := by simp only [ofPy, ofPys_ints]
    rw [← e]; exact hw
  cases hw' with
  | @list _ vs _ ho hall =>
    have hH : HasAll X 1 (fun _ => l) s.heap (ns.map vInt) vs := has_of_well hall
    refine h3 [.ref 0] [.rol (ns.map vInt)] (fun r => ∃ σ', r = .val (.d (.bool true)) σ') ⟨0, ns, rfl, rfl, by omega, _, rfl⟩ callerA s (fun _ => l) [.ref l] Q E ?_ ?_ ?_ ?_ ?_
    · exact ⟨fun _ => rfl, by show 301 + k < 1000; omega, by show 4 + 20 * k + 200 < 9900; omega, [], rfl, fun e he => by cases he⟩
    · refine ⟨fun b o e => by rw [← hB]; exact e, fun i c hc => ?_, fun i c hc ho' => ?_, fun i j hi hj _ => ?_⟩
      · cases i with
        | zero => cases hc; exact ⟨_, vs, ho, ⟨_, rfl⟩, hH⟩
        | succ i => simp at hc
      · cases i with
        | zero => cases hc; cases ho'
        | succ i => simp at hc
      · simp at hi hj; omega
    · exact .cons (.ref (by simp)) .nil
    · rintro v σ' ρ' a h' tk ⟨τ, e⟩ R g hv
      cases e
      have : a = .bool true := by cases hv.d_inv; rfl
      subst this
      exact hQ h' tk fun b o e => R.base b o (by rw [hB]; exact e)
    · rintro c σ' ρ' e h' tk ⟨τ, q⟩
      cases q
end Mine

set_option Elab.async false
set_option autoImplicit false
set_option linter.unusedVariables false
namespace Mine
open PySem PySem.Spec PySem.Calls PyProof.Rows
structure Wish where
  buy : Bool
  lim : Int
  amt : Int
noncomputable def Wish.side (w : Wish) : Str := if w.buy then ("buy" : Str) else ("sell" : Str)
noncomputable def Wish.v (w : Wish) : V := .d (.tuple [.str w.side, .int w.lim, .int w.amt])
theorem side_ok (w : Wish) : PyData.strOk w.side = true := by
  unfold Wish.side
  split <;> decide +kernel
noncomputable def cellAt (ns : List Int) (k : Nat) : Int := ns.getD k 0
noncomputable def cell_atT : Contract := fun vs σ K => ∃ i ns, ∃ k : Nat, vs = [.ref i, .d (.int (k : Int))] ∧ itemsAt σ i = some (ns.map vInt) ∧ ns.length ≤ 1000000 ∧ K (.val (.d (.int (cellAt ns k))) σ)
theorem getD_vInt {ns : List Int} {k : Nat} (h : k < ns.length) : (ns.map vInt)[((k : Int)).toNat]? = some (.d (.int (ns.getD k 0))) := by
  rw [Int.toNat_natCast, List.getElem?_map, List.getElem?_eq_getElem h, List.getD_eq_getElem?_getD, List.getElem?_eq_getElem h]; rfl

theorem isi_int {σ : Store} {i : Int} {t : Str} {b : Bool} (h : isiName "int" t = some b) : isiW σ (.d (.int i)) t = some b := h
noncomputable def wholeT : Contract := fun vs σ K => ∃ i, vs = [.d (.int i)] ∧ K (.val (.d (.bool true)) σ)

theorem pick_int (L : List Int) {k : Int} (h : 0 ≤ k ∧ k < L.length) : (L.map vInt)[k.toNat]? = some (.d (.int (L.getD k.toNat 0))) := by
  obtain ⟨n, rfl⟩ := Int.eq_ofNat_of_zero_le h.1
  exact getD_vInt (by omega)

noncomputable def Wish.d (w : Wish) : PyData := .tuple [.str w.side, .int w.lim, .int w.amt]
theorem Wish.eqv_refl (w : Wish) : PyData.eqv w.d w.d = true := by simp [Wish.d, PyData.eqv, PyData.eqvAll]
/-- a wish as the program takes it -/
noncomputable def Wish.ok (w : Wish) : Prop := 0 ≤ w.lim ∧ w.lim ≤ 1000000000 ∧ 1 ≤ w.amt ∧ w.amt ≤ 1000000
end Mine

set_option Elab.async false
set_option autoImplicit false
set_option linter.unusedVariables false
namespace Mine
open PySem PySem.Spec PySem.Calls PyProof.Rows
/-- is it a number, and no truth? -/
noncomputable def numW (σ : Store) (v : V) : Option Bool := (isiW σ v ("int" : Str)).bind fun b => (isiW σ v ("bool" : Str)).map fun c => b && !c
theorem numW_inv {σ : Store} {v : V} {r : Bool} (h : numW σ v = some r) : ∃ b c, isiW σ v ("int" : Str) = some b ∧ isiW σ v ("bool" : Str) = some c ∧ r = (b && !c) := by
  obtain ⟨b, h1, h2⟩ := Option.bind_eq_some_iff.mp h
  obtain ⟨c, h3, h4⟩ := Option.map_eq_some_iff.mp h2
  exact ⟨b, c, h1, h3, h4.symm⟩
theorem numW_of {σ : Store} {v : V} {b c : Bool} (h1 : isiW σ v ("int" : Str) = some b) (h2 : isiW σ v ("bool" : Str) = some c) : numW σ v = some (b && !c) := by
  unfold numW; rw [h1, h2]; rfl
theorem num_kind {σ : Store} {x : PyData} {k : String} {b c : Bool} (hk : kindName x = some k) (h1 : isiName k ("int" : Str) = some b) (h2 : isiName k ("bool" : Str) = some c) : numW σ (.d x) = some (b && !c) :=
  numW_of (by show (kindName x).bind _ = _; rw [hk]; exact h1) (by show (kindName x).bind _ = _; rw [hk]; exact h2)
theorem num_int {σ : Store} {i : Int} : numW σ (.d (.int i)) = some true := num_kind (k := "int") (b := true) (c := false) rfl (by decide +kernel) (by decide +kernel)
theorem num_bool {σ : Store} {i : Bool} : numW σ (.d (.bool i)) = some false := num_kind (k := "bool") (b := true) (c := true) rfl (by decide +kernel) (by decide +kernel)
theorem num_none {σ : Store} : numW σ (.d .none) = some false := num_kind (k := "NoneType") (b := false) (c := false) rfl (by decide +kernel) (by decide +kernel)
theorem num_str {σ : Store} {x : Str} : numW σ (.d (.str x)) = some false := num_kind (k := "str") (b := false) (c := false) rfl (by decide +kernel) (by decide +kernel)
theorem num_tup {σ : Store} {x : List PyData} : numW σ (.d (.tuple x)) = some false := num_kind (k := "tuple") (b := false) (c := false) rfl (by decide +kernel) (by decide +kernel)
noncomputable def cellName : Cell → String
  | .dct => "dict"
  | _ => "list"
theorem isi_cell {σ : Store} {i : Nat} {c : Cell} {t : Str} {b : Bool} (h : σ[i]? = some c) (hb : isiName (cellName c) t = some b) : isiW σ (.ref i) t = some b := by
  show (σ[i]?).bind _ = _; rw [h]; exact hb
theorem num_dct {σ : Store} {i : Nat} (h : σ[i]? = some .dct) : numW σ (.ref i) = some false := numW_of (b := false) (c := false) (isi_cell h (by decide +kernel)) (isi_cell h (by decide +kernel))
theorem num_lst {σ : Store} {i : Nat} {xs : List V} (h : σ[i]? = some (.lst xs)) : numW σ (.ref i) = some false :=
  numW_of (b := false) (c := false) (isi_cell h (by show isiName "list" _ = _; decide +kernel)) (isi_cell h (by show isiName "list" _ = _; decide +kernel))
noncomputable def numT : Contract := fun vs σ K => ∃ v r, vs = [v] ∧ numW σ v = some r ∧ K (.val (.d (.bool r)) σ)

/-- no number from lo to hi -/
noncomputable def badNum (σ : Store) (lo hi : Int) (v : V) : Prop := numW σ v = some false ∨ ∃ p : Int, v = .d (.int p) ∧ (p < lo ∨ hi < p)
noncomputable def sixNames : List (Str × Str) := [("BadWish", "wish "), ("BadPrice", "price "), ("BadPieces", "pieces "), ("Uneven", "uneven "), ("NoSuch", "none "), ("Unread", "unread ")]
noncomputable def namesT : Contract := fun vs σ K => ∃ p ∈ sixNames, vs = [.exc p.1] ∧ K (.val (.d (.str p.2)) σ)

end Mine

set_option Elab.async false
set_option autoImplicit false
set_option linter.unusedVariables false
namespace Mine
open PySem PySem.Spec PySem.Calls PyProof.Rows
/-- the first part is no side -/
noncomputable def badSide (d : PyData) : Prop := (∃ k, kindName d = some k ∧ k ∈ ["NoneType", "bool", "int", "tuple"]) ∨ ∃ x : Str, d = .str x ∧ PyData.strOk x = true ∧ x ≠ ("buy" : Str) ∧ x ≠ ("sell" : Str)
/-- no wish -/
inductive badWish (σ : Store) : V → Prop
  | no {v} : isiW σ v ("tuple" : Str) = some false → badWish σ v
  | len {ds : List PyData} : ds.length ≠ 3 → ds.length ≤ 10 → badWish σ (.d (.tuple ds))
  | side {a b c : PyData} : badSide a → badWish σ (.d (.tuple [a, b, c]))
  | lim {w : Wish} {b c : PyData} : badNum σ 0 1000000000 (.d b) → badWish σ (.d (.tuple [.str w.side, b, c]))
  | amt {w : Wish} {l : Int} {c : PyData} : 0 ≤ l → l ≤ 1000000000 → badNum σ 1 1000000 (.d c) → badWish σ (.d (.tuple [.str w.side, .int l, c]))
noncomputable def checkedT : Contract := fun vs σ K => ∃ v, vs = [v] ∧ ((∃ w : Wish, w.ok ∧ v = w.v ∧ K (.val v σ)) ∨ (badWish σ v ∧ K (.exn ("BadWish" : Str) σ)))
noncomputable def spoiltT : Contract := fun vs σ K => ∃ (w : Wish) (way cell : Int), vs = [.d (.str w.side), .d (.int w.lim), .d (.int w.amt), .d (.int way), .d (.int cell)] ∧ 6 ≤ way ∧ way < 22 ∧ w.ok ∧ ∀ v τ, Grown σ τ → badWish τ v → K (.val v τ)
theorem isi_d {σ : Store} {x : PyData} {k : String} {t : Str} {b : Bool} (hk : kindName x = some k) (h : isiName k t = some b) : isiW σ (.d x) t = some b := by
  show (kindName x).bind _ = _; rw [hk]; exact h
theorem isi_tup {σ : Store} {x : List PyData} : isiW σ (.d (.tuple x)) ("tuple" : Str) = some true := isi_d (k := "tuple") rfl (by decide +kernel)
theorem isi_ss {σ : Store} {x : Str} : isiW σ (.d (.str x)) ("str" : Str) = some true := isi_d (k := "str") rfl (by decide +kernel)
theorem side_or (w : Wish) : w.side = ("buy" : Str) ∨ w.side = ("sell" : Str) := by unfold Wish.side; cases w.buy <;> simp
theorem shaped_s {x : Str} (h : PyData.strOk x = true) : SeqAt.shaped (.str x) = true := shaped_str h
/-- a side is one of the two; another text is none -/
theorem notin_side {σ : Store} {w : Wish} {g : Bool → Prop} (h : g false) : cmpW .NotIn (.d (.str w.side)) (.d (.tuple [.str ("buy" : Str), .str ("sell" : Str)])) σ g := by
  refine ⟨shaped_s (side_ok w), by decide +kernel, ?_⟩
  have : (!([PyData.str ("buy" : Str), .str ("sell" : Str)].any fun y => PyData.eqv y (.str w.side))) = false := by
    rcases side_or w with e | e <;> rw [e] <;> decide +kernel
  rw [this]; exact h
theorem notin_other {σ : Store} {x : Str} {g : Bool → Prop} (h1 : PyData.strOk x = true) (h2 : x ≠ ("buy" : Str)) (h3 : x ≠ ("sell" : Str)) (h : g true) : cmpW .NotIn (.d (.str x)) (.d (.tuple [.str ("buy" : Str), .str ("sell" : Str)])) σ g := by
  refine ⟨shaped_s h1, by decide +kernel, ?_⟩
  have : (!([PyData.str ("buy" : Str), .str ("sell" : Str)].any fun y => PyData.eqv y (.str x))) = true := by
    simp [PyData.eqv, Ne.symm h2, Ne.symm h3]
  rw [this]; exact h
end Mine

set_option Elab.async false
set_option autoImplicit false
set_option linter.unusedVariables false
set_option linter.unusedSimpArgs false
set_option maxRecDepth 100000
namespace Mine
open PySem PySem.Spec PySem.Calls PyProof.Rows
local macro_rules | `(tactic| walk_at "mine_look") => `(tactic| (first | exact Mine.upd_eq | exact Mine.look_eq | assumption | refine Mine.upd_ne (by decide +kernel) ?_ | refine Mine.look_ne (by decide +kernel) ?_ | refine Mine.drop_ne (by decide +kernel) ?_))
local macro_rules | `(tactic| walk_at "mine_fn") => `(tactic| (first | assumption | decide +kernel | (simp only [Mine.Sig.add, Mine.baseSig, Mine.handSig, Mine.emptySig, Mine.ofString_inj, String.reduceEq, reduceIte, List.lookup_cons, List.lookup_nil, Mine.ofString_beq, String.reduceBEq]; done) | (simp only [Mine.Sig.add, Mine.baseSig, Mine.handSig, Mine.emptySig, Mine.ofString_inj, String.reduceEq, reduceIte, List.lookup_cons, List.lookup_nil, Mine.ofString_beq, String.reduceBEq]; rfl)))
local macro_rules | `(tactic| walk_at "mine_step") => `(tactic| (first
    | (with_reducible (first | refine Mine.r_thenE ?_ | refine Mine.r_exn ?_ | refine Mine.r_exnT ?_ | refine Mine.r_exnL ?_ | refine Mine.r_tryN ?_ | refine Mine.r_tryR ?_ | refine Mine.r_asN ?_ | refine Mine.r_asR ?_ | refine Mine.r_Dict ?_ | refine Mine.r_next ?_ | refine Mine.r_ret ?_ | refine Mine.r_nil ?_ | refine Mine.r_cons ?_ | refine Mine.r_Return ?_ | refine Mine.r_If ?_ | refine Mine.r_int ?_ | refine Mine.r_str ?_ | refine Mine.r_bool ?_ | refine Mine.r_none ?_ | refine Mine.r_BinOp ?_ | refine Mine.r_UnaryOp ?_ | refine Mine.r_BoolOp ?_ | refine Mine.r_Compare ?_ | refine Mine.r_tup1 ?_ | refine Mine.r_tup2 ?_ | refine Mine.r_tup3 ?_ | refine Mine.r_tup4 ?_ | refine Mine.r_es_nil ?_ | refine Mine.r_es_cons ?_ | refine Mine.r_cmp2 ?_ | refine Mine.r_lt ?_ | refine Mine.r_le ?_ | refine Mine.r_ge ?_ | refine Mine.r_eqI ?_ | refine Mine.r_neI ?_ | refine Mine.r_eqB ?_ | refine Mine.r_neB ?_ | refine Mine.r_add ?_ | refine Mine.r_sub ?_ | refine Mine.r_usub ?_ | refine Mine.r_not ?_ | refine Mine.r_truth ?_ | refine Mine.t_and_nil ?_ | refine Mine.t_or_nil ?_ | refine Mine.t_and_cons ?_ | refine Mine.t_or_cons ?_ | refine Mine.b_one ?_ | refine Mine.b_and ?_ | refine Mine.b_or ?_ | refine Mine.t_Compare ?_ | refine Mine.t_BoolOp ?_ | refine Mine.t_Not ?_ | refine Mine.t_Call ?_ | refine Mine.t_Name ?_))
    | ((with_reducible apply Mine.r_Assign); (focus (decide +kernel)))
    | ((with_reducible apply Mine.r_Raise); (focus (decide +kernel)); (focus assumption); (focus assumption))
    | ((with_reducible apply Mine.r_Try); (focus (decide +kernel)); (focus (decide +kernel)); (focus assumption); (focus assumption))
    | ((with_reducible apply Mine.r_tryE); (focus assumption); (focus (decide +kernel)))
    | ((with_reducible apply Mine.r_isiE); (focus (decide +kernel)); (focus (first | exact Or.inl (by decide +kernel) | exact Or.inr rfl)))
    | ((with_reducible apply Mine.r_addS); (focus (decide +kernel)))
    | ((with_reducible apply Mine.r_name); (focus (decide +kernel)); (focus ((repeat (walk_at "mine_look")); done)))
    | ((with_reducible apply Mine.r_List); (focus (exact rfl)))
    | ((with_reducible apply Mine.r_Tuple); (focus (exact rfl)))
    | ((with_reducible apply Mine.r_Item); (focus (exact rfl)))
    | ((with_reducible apply Mine.r_Call); (focus (decide +kernel)); (focus assumption); (focus assumption); (focus (exact rfl)))
    | ((with_reducible apply Mine.r_const); (focus (decide +kernel)); (focus assumption))
    | ((with_reducible apply Mine.r_glob); (focus (decide +kernel)); (focus assumption); (focus assumption))
    | ((with_reducible apply Mine.r_cmp1); (focus (exact rfl)))
    | ((with_reducible apply Mine.r_eqS); (focus (first | assumption | decide +kernel)); (focus (first | assumption | decide +kernel)))
    | ((with_reducible apply Mine.r_neS); (focus (first | assumption | decide +kernel)); (focus (first | assumption | decide +kernel)))
    | ((with_reducible apply Mine.r_div); (focus decide))
    | ((with_reducible apply Mine.r_mod); (focus decide))
    | ((with_reducible apply Mine.r_len); (focus (exact rfl)))
    | ((with_reducible apply Mine.r_ift); (focus (first | exact rfl | assumption | decide +kernel)))
    | ((with_reducible apply Mine.r_iff); (focus (first | exact rfl | assumption | decide +kernel)))
    | ((with_reducible apply Mine.r_ist); (focus (first | exact rfl | assumption | decide +kernel)))
    | ((with_reducible apply Mine.r_isf); (focus (first | exact rfl | assumption | decide +kernel)))
    | ((with_reducible apply Mine.r_itemT); (focus decide); (focus (exact rfl)))))
local macro_rules | `(tactic| walk_at "mine_steps") => `(tactic| (repeat (walk_at "mine_step")))
local macro_rules | `(tactic| walk_at "mine_paths") => `(tactic| (repeat' (first | walk_at "mine_step" | (with_reducible apply Mine.r_if) | (with_reducible apply Mine.r_is) | intro _)))
def prg : Program := PySem.Challenge.rw_uf040040_02.row.toRowW.1
set_option maxHeartbeats 4000000 in
theorem v_num {fam : List Str} {X : Cx} {k : Nat} {Γ : Sig} (cx : CxOk X) (ok : SigOk X k Γ) (calm : Γ.calm = true) (h_isi : Γ.fn ("isinstance" : Str) = some (isiT fam)) (c_isi : Γ.const ("isinstance" : Str) = none) (k_int : Γ.knows ("int" : Str) = true) (c_int : Γ.const ("int" : Str) = none) (k_bool : Γ.knows ("bool" : Str) = true) (c_bool : Γ.const ("bool" : Str) = none) {nm : Str} {ps : Arguments} {body : List Stmt} {dl : List Expr} {re : Option Expr} {tp} {sc : Scope} {tc} {q : Str} {pos : Pos}
    (hs : prg.main.body[11]? = some (.FunctionDef nm ps body dl re tp sc tc q pos)) (hf : IsFn X ("is_number" : Str) (ps.args.map (·.arg)) body sc) : ValidF X (k + 1) ("is_number" : Str) numT := by
  cases hs
  have hf : IsFn X ("is_number" : Str) ["thing"] _ _ := hf
  refine valid_fn (n := 60) cx ok hf (by decide +kernel) ?_
  rintro _ σ K ⟨v, r, rfl, hr, hK⟩
  obtain ⟨b, c, hb, hc, rfl⟩ := numW_inv hr
  refine ⟨rfl, ?_⟩
  dsimp only
  walk_at "mine_steps"
  refine isi_of hb ?_
  walk_at "mine_steps"
  refine r_if (fun h => ?_) (fun h => ?_)
  · walk_at "mine_steps"
    refine isi_of hc ?_
    walk_at "mine_steps"
    subst h
    exact ret_data .refl hK
  · walk_at "mine_steps"
    subst h
    exact ret_data .refl hK

set_option maxHeartbeats 4000000 in
theorem v_checked {fam : List Str} {X : Cx} {k : Nat} {Γ : Sig} (cx : CxOk X) (ok : SigOk X k Γ) (calm : Γ.calm = true) (h_isi : Γ.fn ("isinstance" : Str) = some (isiT fam)) (c_isi : Γ.const ("isinstance" : Str) = none) (h_len : Γ.fn ("len" : Str) = some lenT) (c_len : Γ.const ("len" : Str) = none) (h_num : Γ.fn ("is_number" : Str) = some numT) (c_num : Γ.const ("is_number" : Str) = none) (k_tuple : Γ.knows ("tuple" : Str) = true) (c_tuple : Γ.const ("tuple" : Str) = none) (k_str : Γ.knows ("str" : Str) = true) (c_str : Γ.const ("str" : Str) = none) (e_BadWish : Γ.exc ("BadWish" : Str) = true) (d_TOP : Γ.const ("TOP" : Str) = some (.int 1000000000)) (d_MOST : Γ.const ("MOST" : Str) = some (.int 1000000)) {nm : Str} {ps : Arguments} {body : List Stmt} {dl : List Expr} {re : Option Expr} {tp} {sc : Scope} {tc} {q : Str} {pos : Pos}
    (hs : prg.main.body[12]? = some (.FunctionDef nm ps body dl re tp sc tc q pos)) (hf : IsFn X ("checked" : Str) (ps.args.map (·.arg)) body sc) : ValidF X (k + 1) ("checked" : Str) checkedT := by
  cases hs
  have hf : IsFn X ("checked" : Str) ["thing"] _ _ := hf
  refine valid_fn (n := 60) cx ok hf (by decide +kernel) ?_
  rintro _ σ K ⟨v, rfl, h⟩
  refine ⟨rfl, ?_⟩
  dsimp only
  rcases h with ⟨w, ok, rfl, hK⟩ | ⟨hb, hK⟩
  · unfold Wish.v at hK ⊢
    walk_at "mine_steps"
    refine isi_of isi_tup ?_
    walk_at "mine_steps"
    refine ⟨by simp, ?_⟩
    walk_at "mine_steps"
    refine isi_of isi_ss ?_
    walk_at "mine_steps"
    refine notin_side ?_
    walk_at "mine_steps"
    refine ⟨_, true, rfl, num_int, ?_⟩
    walk_at "mine_steps"
    rw [decide_eq_true ok.1]
    walk_at "mine_steps"
    rw [decide_eq_true ok.2.1]
    walk_at "mine_steps"
    refine ⟨_, true, rfl, num_int, ?_⟩
    walk_at "mine_steps"
    rw [decide_eq_true ok.2.2.1]
    walk_at "mine_steps"
    rw [decide_eq_true ok.2.2.2]
    walk_at "mine_steps"
    exact ret_data .refl hK
  · cases hb with
    | no h =>
      walk_at "mine_steps"
      refine isi_of h ?_
      walk_at "mine_steps"
      exact ret_exn .refl hK
    | @len ds h1 h2 =>
      walk_at "mine_steps"
      refine isi_of isi_tup ?_
      walk_at "mine_steps"
      refine ⟨by omega, ?_⟩
      walk_at "mine_steps"
      rw [decide_eq_false (by omega)]
      walk_at "mine_steps"
      exact ret_exn .refl hK
    | @side a b c h =>
      walk_at "mine_steps"
      refine isi_of isi_tup ?_
      walk_at "mine_steps"
      refine ⟨by simp, ?_⟩
      walk_at "mine_steps"
      rcases h with ⟨k, hk, hm⟩ | ⟨x, rfl, h1, h2, h3⟩
      · refine isi_of (isi_d (b := false) hk ?_) ?_
        · simp only [List.mem_cons, List.not_mem_nil, or_false] at hm
          rcases hm with rfl | rfl | rfl | rfl <;> decide +kernel
        walk_at "mine_steps"
        exact ret_exn .refl hK
      · refine isi_of isi_ss ?_
        walk_at "mine_steps"
        refine notin_other h1 h2 h3 ?_
        walk_at "mine_steps"
        exact ret_exn .refl hK
    | @lim w b c h =>
      walk_at "mine_steps"
      refine isi_of isi_tup ?_
      walk_at "mine_steps"
      refine ⟨by simp, ?_⟩
      walk_at "mine_steps"
      refine isi_of isi_ss ?_
      walk_at "mine_steps"
      refine notin_side ?_
      walk_at "mine_steps"
      rcases h with hb | ⟨p, e, hp⟩
      · refine ⟨_, false, rfl, hb, ?_⟩
        walk_at "mine_steps"
        exact ret_exn .refl hK
      · cases e
        refine ⟨_, true, rfl, num_int, ?_⟩
        walk_at "mine_steps"
        by_cases q : 0 ≤ p
        · rw [decide_eq_true q]
          walk_at "mine_steps"
          rw [decide_eq_false (by omega)]
          walk_at "mine_steps"
          exact ret_exn .refl hK
        · rw [decide_eq_false q]
          walk_at "mine_steps"
          exact ret_exn .refl hK
    | @amt w l c l0 l1 h =>
      walk_at "mine_steps"
      refine isi_of isi_tup ?_
      walk_at "mine_steps"
      refine ⟨by simp, ?_⟩
      walk_at "mine_steps"
      refine isi_of isi_ss ?_
      walk_at "mine_steps"
      refine notin_side ?_
      walk_at "mine_steps"
      refine ⟨_, true, rfl, num_int, ?_⟩
      walk_at "mine_steps"
      rw [decide_eq_true l0]
      walk_at "mine_steps"
      rw [decide_eq_true l1]
      walk_at "mine_steps"
      rcases h with hb | ⟨p, e, hp⟩
      · refine ⟨_, false, rfl, hb, ?_⟩
        walk_at "mine_steps"
        exact ret_exn .refl hK
      · cases e
        refine ⟨_, true, rfl, num_int, ?_⟩
        walk_at "mine_steps"
        by_cases q : 1 ≤ p
        · rw [decide_eq_true q]
          walk_at "mine_steps"
          rw [decide_eq_false (by omega)]
          walk_at "mine_steps"
          exact ret_exn .refl hK
        · rw [decide_eq_false q]
          walk_at "mine_steps"
          exact ret_exn .refl hK

set_option maxHeartbeats 4000000 in
theorem v_cell_at {fam : List Str} {X : Cx} {k : Nat} {Γ : Sig} (cx : CxOk X) (ok : SigOk X k Γ) (calm : Γ.calm = true) (h_len : Γ.fn ("len" : Str) = some lenT) (c_len : Γ.const ("len" : Str) = none) {nm : Str} {ps : Arguments} {body : List Stmt} {dl : List Expr} {re : Option Expr} {tp} {sc : Scope} {tc} {q : Str} {pos : Pos}
    (hs : prg.main.body[14]? = some (.FunctionDef nm ps body dl re tp sc tc q pos)) (hf : IsFn X ("_law_cell_at" : Str) (ps.args.map (·.arg)) body sc) : ValidF X (k + 1) ("_law_cell_at" : Str) cell_atT := by
  cases hs
  have hf : IsFn X ("_law_cell_at" : Str) ["_law_script", "_law_k"] _ _ := hf
  refine valid_fn (n := 60) cx ok hf (by decide +kernel) ?_
  rintro _ σ K ⟨i, ns, j, rfl, h1, h2, hK⟩
  refine ⟨rfl, ?_⟩
  dsimp only
  walk_at "mine_steps"
  refine ⟨_, h1, by simpa using h2, ?_⟩
  walk_at "mine_steps"
  refine ⟨fun hc => ?_, fun hc => ?_⟩
  · walk_at "mine_steps"
    have hc := of_decide_eq_true hc
    rw [List.length_map] at hc
    refine r_itemL h1 (by omega) (getD_vInt (by omega)) ?_
    walk_at "mine_steps"
    exact ret_data .refl hK
  · walk_at "mine_steps"
    have hc := of_decide_eq_false hc
    rw [List.length_map] at hc
    have : cellAt ns j = 0 := by unfold cellAt; rw [List.getD_eq_getElem?_getD, List.getElem?_eq_none (by omega)]; rfl
    rw [this] at hK
    exact ret_data .refl hK

set_option maxHeartbeats 4000000 in
theorem v_whole {fam : List Str} {X : Cx} {k : Nat} {Γ : Sig} (cx : CxOk X) (ok : SigOk X k Γ) (calm : Γ.calm = true) (h_isi : Γ.fn ("isinstance" : Str) = some (isiT fam)) (c_isi : Γ.const ("isinstance" : Str) = none) (k_int : Γ.knows ("int" : Str) = true) (c_int : Γ.const ("int" : Str) = none) (k_bool : Γ.knows ("bool" : Str) = true) (c_bool : Γ.const ("bool" : Str) = none) {nm : Str} {ps : Arguments} {body : List Stmt} {dl : List Expr} {re : Option Expr} {tp} {sc : Scope} {tc} {q : Str} {pos : Pos}
    (hs : prg.main.body[15]? = some (.FunctionDef nm ps body dl re tp sc tc q pos)) (hf : IsFn X ("_law_whole" : Str) (ps.args.map (·.arg)) body sc) : ValidF X (k + 1) ("_law_whole" : Str) wholeT := by
  cases hs
  have hf : IsFn X ("_law_whole" : Str) ["_law_thing"] _ _ := hf
  refine valid_fn (n := 60) cx ok hf (by decide +kernel) ?_
  rintro _ σ K ⟨i, rfl, hK⟩
  refine ⟨rfl, ?_⟩
  dsimp only
  walk_at "mine_steps"
  refine ⟨true, isi_int (by decide +kernel), ?_⟩
  walk_at "mine_steps"
  refine ⟨false, isi_int (by decide +kernel), ?_⟩
  walk_at "mine_steps"
  exact ret_data .refl hK

set_option maxHeartbeats 4000000 in
theorem v_names {fam : List Str} {X : Cx} {k : Nat} {Γ : Sig} (cx : CxOk X) (ok : SigOk X k Γ) (h_isiAll : Γ.fn ("isinstance" : Str) = some isiAllT) (c_isiAll : Γ.const ("isinstance" : Str) = none) (k_BadWish : Γ.knows ("BadWish" : Str) = true) (c_BadWish : Γ.const ("BadWish" : Str) = none) (k_BadPrice : Γ.knows ("BadPrice" : Str) = true) (c_BadPrice : Γ.const ("BadPrice" : Str) = none) (k_BadPieces : Γ.knows ("BadPieces" : Str) = true) (c_BadPieces : Γ.const ("BadPieces" : Str) = none) (k_Uneven : Γ.knows ("Uneven" : Str) = true) (c_Uneven : Γ.const ("Uneven" : Str) = none) (k_NoSuch : Γ.knows ("NoSuch" : Str) = true) (c_NoSuch : Γ.const ("NoSuch" : Str) = none) (k_Unread : Γ.knows ("Unread" : Str) = true) (c_Unread : Γ.const ("Unread" : Str) = none) (k_ValueError : Γ.knows ("ValueError" : Str) = true) (c_ValueError : Γ.const ("ValueError" : Str) = none) {nm : Str} {ps : Arguments} {body : List Stmt} {dl : List Expr} {re : Option Expr} {tp} {sc : Scope} {tc} {q : Str} {pos : Pos}
    (hs : prg.main.body[16]? = some (.FunctionDef nm ps body dl re tp sc tc q pos)) (hf : IsFn X ("_law_names" : Str) (ps.args.map (·.arg)) body sc) : ValidF X (k + 1) ("_law_names" : Str) namesT := by
  cases hs
  have hf : IsFn X ("_law_names" : Str) ["_law_e"] _ _ := hf
  refine valid_fn (n := 60) cx ok hf (by decide +kernel) ?_
  rintro _ σ K ⟨p, hp, rfl, hK⟩
  simp only [sixNames, List.mem_cons, List.not_mem_nil, or_false] at hp
  rcases hp with rfl | rfl | rfl | rfl | rfl | rfl
  all_goals refine ⟨rfl, ?_⟩
  all_goals dsimp only
  all_goals walk_at "mine_steps"
  all_goals exact ret_data .refl hK



set_option Elab.async false
set_option autoImplicit false
set_option linter.unusedVariables false
set_option linter.unusedSimpArgs false
set_option maxRecDepth 100000
open PySem PySem.Spec PySem.Calls PyProof.Rows
theorem shaped_wish (w : Wish) : SeqAt.shaped w.d = true := by
  unfold SeqAt.shaped
  rw [Bool.and_eq_true, decide_eq_true_eq]
  exact ⟨by simp [Wish.d, PyData.canLay0, PyData.canLayAll0, side_ok], by simp [Wish.d, PyData.depth, PyData.depthAll]⟩
theorem pick_side (c : Int) : ∃ b : Bool, ([.d (.str ("buy" : Str)), .d (.str ("sell" : Str))] : List V)[(c % 2).toNat]? = some (.d (.str (if b then ("buy" : Str) else ("sell" : Str)))) := by
  have : (c % 2).toNat = 0 ∨ (c % 2).toNat = 1 := by omega
  rcases this with h | h <;> rw [h]
  · exact ⟨true, rfl⟩
  · exact ⟨false, rfl⟩
theorem pick9 (c : Int) : ∃ x : Str, ([.d (.str ("Buy" : Str)), .d (.str ("SELL" : Str)), .d (.str ("" : Str)), .d (.str ("bu" : Str)), .d (.str ("sells" : Str)), .d (.str ("buy " : Str))] : List V)[(c % 6).toNat]? = some (.d (.str x)) ∧ badSide (.str x) := by
  have : (c % 6).toNat = 0 ∨ (c % 6).toNat = 1 ∨ (c % 6).toNat = 2 ∨ (c % 6).toNat = 3 ∨ (c % 6).toNat = 4 ∨ (c % 6).toNat = 5 := by omega
  rcases this with h | h | h | h | h | h <;> rw [h] <;> exact ⟨_, rfl, .inr ⟨_, rfl, by decide +kernel, by decide +kernel, by decide +kernel⟩⟩
theorem pick10 (c : Int) : ∃ x : PyData, ([.d .none, .d (.int 0), .d (.bool true), .d (.tuple [.str ("buy" : Str)])] : List V)[(c % 4).toNat]? = some (.d x) ∧ badSide x := by
  have : (c % 4).toNat = 0 ∨ (c % 4).toNat = 1 ∨ (c % 4).toNat = 2 ∨ (c % 4).toNat = 3 := by omega
  rcases this with h | h | h | h <;> rw [h] <;> exact ⟨_, rfl, .inl ⟨_, rfl, by simp⟩⟩
theorem pick13 {σ : Store} (c : Int) : ∃ x : PyData, ([.d (.bool true), .d (.bool false), .d .none, .d (.str ("20" : Str)), .d (.tuple [.int 20])] : List V)[(c % 5).toNat]? = some (.d x) ∧ badNum σ 0 1000000000 (.d x) := by
  have : (c % 5).toNat = 0 ∨ (c % 5).toNat = 1 ∨ (c % 5).toNat = 2 ∨ (c % 5).toNat = 3 ∨ (c % 5).toNat = 4 := by omega
  rcases this with h | h | h | h | h <;> rw [h]
  · exact ⟨_, rfl, .inl num_bool⟩
  · exact ⟨_, rfl, .inl num_bool⟩
  · exact ⟨_, rfl, .inl num_none⟩
  · exact ⟨_, rfl, .inl num_str⟩
  · exact ⟨_, rfl, .inl num_tup⟩
theorem pick16 {σ : Store} (c : Int) : ∃ x : PyData, ([.d (.bool true), .d .none, .d (.str ("1" : Str)), .d (.bool false)] : List V)[(c % 4).toNat]? = some (.d x) ∧ badNum σ 1 1000000 (.d x) := by
  have : (c % 4).toNat = 0 ∨ (c % 4).toNat = 1 ∨ (c % 4).toNat = 2 ∨ (c % 4).toNat = 3 := by omega
  rcases this with h | h | h | h <;> rw [h]
  · exact ⟨_, rfl, .inl num_bool⟩
  · exact ⟨_, rfl, .inl num_none⟩
  · exact ⟨_, rfl, .inl num_str⟩
  · exact ⟨_, rfl, .inl num_bool⟩
theorem pick20 {i : Nat} (c : Int) : (∃ x : PyData, ([.d .none, .d (.str ("buy" : Str)), .d (.int 7), .d (.bool true), .ref i, .d (.tuple [])] : List V)[(c % 6).toNat]? = some (.d x) ∧ ∀ σ, badWish σ (.d x)) ∨ ([.d .none, .d (.str ("buy" : Str)), .d (.int 7), .d (.bool true), .ref i, .d (.tuple [])] : List V)[(c % 6).toNat]? = some (.ref i) := by
  have : (c % 6).toNat = 0 ∨ (c % 6).toNat = 1 ∨ (c % 6).toNat = 2 ∨ (c % 6).toNat = 3 ∨ (c % 6).toNat = 4 ∨ (c % 6).toNat = 5 := by omega
  rcases this with h | h | h | h | h | h <;> rw [h]
  · exact .inl ⟨_, rfl, fun σ => .no (isi_d (k := "NoneType") rfl (by decide +kernel))⟩
  · exact .inl ⟨_, rfl, fun σ => .no (isi_d (k := "str") rfl (by decide +kernel))⟩
  · exact .inl ⟨_, rfl, fun σ => .no (isi_d (k := "int") rfl (by decide +kernel))⟩
  · exact .inl ⟨_, rfl, fun σ => .no (isi_d (k := "bool") rfl (by decide +kernel))⟩
  · exact .inr rfl
  · exact .inl ⟨_, rfl, fun σ => .len (by simp) (by simp)⟩
set_option maxHeartbeats 4000000 in
theorem v_spoilt {fam : List Str} {X : Cx} {k : Nat} {Γ : Sig} (cx : CxOk X) (ok : SigOk X k Γ) (calm : Γ.calm = true) {nm : Str} {ps : Arguments} {body : List Stmt} {dl : List Expr} {re : Option Expr} {tp} {sc : Scope} {tc} {q : Str} {pos : Pos}
    (hs : prg.main.body[17]? = some (.FunctionDef nm ps body dl re tp sc tc q pos)) (hf : IsFn X ("_law_spoilt" : Str) (ps.args.map (·.arg)) body sc) : ValidF X (k + 1) ("_law_spoilt" : Str) spoiltT := by
  cases hs
  have hf : IsFn X ("_law_spoilt" : Str) ["_law_side", "_law_limit", "_law_amount", "_law_way", "_law_cell"] _ _ := hf
  refine valid_fn (n := 60) cx ok hf (by decide +kernel) ?_
  rintro _ σ K ⟨w, way, cell, rfl, h6, h22, ok, hK⟩
  refine ⟨rfl, ?_⟩
  dsimp only
  have ways : way = 6 ∨ way = 7 ∨ way = 8 ∨ way = 9 ∨ way = 10 ∨ way = 11 ∨ way = 12 ∨ way = 13 ∨ way = 14 ∨ way = 15 ∨ way = 16 ∨ way = 17 ∨ way = 18 ∨ way = 19 ∨ way = 20 ∨ way = 21 := by omega
  clear h6 h22
  rcases ways with rfl | rfl | rfl | rfl | rfl | rfl | rfl | rfl | rfl | rfl | rfl | rfl | rfl | rfl | rfl | rfl
  all_goals walk_at "mine_steps"
  · refine ret_list Grown.refl.snoc (Nat.le_refl _) get_new (by simp) (hK _ _ Grown.refl.snoc (.no (isi_cell get_new (by show isiName "list" _ = _; decide +kernel))))
  · exact ret_data .refl (hK _ _ .refl (.len (by simp) (by simp)))
  · exact ret_data .refl (hK _ _ .refl (.len (by simp) (by simp)))
  · obtain ⟨x, hx, hb⟩ := pick9 cell
    refine r_itemL itemsAt_new ⟨by omega, by omega⟩ hx ?_
    walk_at "mine_steps"
    exact ret_data Grown.refl.snoc (hK _ _ .refl (.side hb))
  · obtain ⟨x, hx, hb⟩ := pick10 cell
    refine r_itemL itemsAt_new ⟨by omega, by omega⟩ hx ?_
    walk_at "mine_steps"
    exact ret_data Grown.refl.snoc (hK _ _ .refl (.side hb))
  · exact ret_data .refl (hK _ _ .refl (.lim (.inr ⟨_, rfl, by omega⟩)))
  · exact ret_data .refl (hK _ _ .refl (.lim (.inr ⟨_, rfl, by omega⟩)))
  · obtain ⟨x, hx, hb⟩ := pick13 (σ := σ) cell
    refine r_itemL itemsAt_new ⟨by omega, by omega⟩ hx ?_
    walk_at "mine_steps"
    exact ret_data Grown.refl.snoc (hK _ _ .refl (.lim hb))
  · exact ret_data .refl (hK _ _ .refl (.amt ok.1 ok.2.1 (.inr ⟨_, rfl, by omega⟩)))
  · exact ret_data .refl (hK _ _ .refl (.amt ok.1 ok.2.1 (.inr ⟨_, rfl, by omega⟩)))
  · obtain ⟨x, hx, hb⟩ := pick16 (σ := σ) cell
    refine r_itemL itemsAt_new ⟨by omega, by omega⟩ hx ?_
    walk_at "mine_steps"
    exact ret_data Grown.refl.snoc (hK _ _ .refl (.amt ok.1 ok.2.1 hb))
  · exact ret_data .refl (hK _ _ .refl (.lim (.inr ⟨_, rfl, by omega⟩)))
  · exact ret_data .refl (hK _ _ .refl (.amt ok.1 ok.2.1 (.inr ⟨_, rfl, by omega⟩)))
  · exact ret_data .refl (hK _ _ .refl (.lim (.inr ⟨_, rfl, by omega⟩)))
  · refine ⟨[], rfl, by simp, ?_⟩
    walk_at "mine_steps"
    rcases pick20 (i := σ.length) cell with ⟨x, hx, hb⟩ | hx
    · refine r_itemL itemsAt_new ⟨by omega, by omega⟩ hx ?_
      walk_at "mine_steps"
      exact ret_data Grown.refl.snoc.snoc (hK _ _ .refl (hb _))
    · refine r_itemL itemsAt_new ⟨by omega, by omega⟩ hx ?_
      walk_at "mine_steps"
      exact ret_dict Grown.refl.snoc.snoc (Nat.le_refl _) (by simp) (hK _ _ Grown.refl.snoc (.no (isi_cell get_new (by decide +kernel))))
  · exact ret_data .refl (hK _ _ .refl (.side (.inl ⟨_, rfl, by simp⟩)))
set_option maxHeartbeats 4000000 in
theorem v_goal {fam : List Str} {X : Cx} {k : Nat} {Γ : Sig} (cx : CxOk X) (ok : SigOk X k Γ) (calm : Γ.calm = true) (h_cell_at : Γ.fn ("_law_cell_at" : Str) = some cell_atT) (c_cell_at : Γ.const ("_law_cell_at" : Str) = none) (h_checked : Γ.fn ("checked" : Str) = some checkedT) (c_checked : Γ.const ("checked" : Str) = none) (h_spoilt : Γ.fn ("_law_spoilt" : Str) = some spoiltT) (c_spoilt : Γ.const ("_law_spoilt" : Str) = none) (h_isi : Γ.fn ("isinstance" : Str) = some (isiT fam)) (c_isi : Γ.const ("isinstance" : Str) = none) (h_len : Γ.fn ("len" : Str) = some lenT) (c_len : Γ.const ("len" : Str) = none) (h_whole : Γ.fn ("_law_whole" : Str) = some wholeT) (c_whole : Γ.const ("_law_whole" : Str) = none) (k_tuple : Γ.knows ("tuple" : Str) = true) (c_tuple : Γ.const ("tuple" : Str) = none) (k_str : Γ.knows ("str" : Str) = true) (c_str : Γ.const ("str" : Str) = none) (e_BidError : Γ.exc ("BidError" : Str) = true) (e_BadWish : Γ.exc ("BadWish" : Str) = true) (hh_names : Γ.fnH ("_law_names" : Str) = some namesT) (c_names : Γ.const ("_law_names" : Str) = none) {nm : Str} {ps : Arguments} {body : List Stmt} {dl : List Expr} {re : Option Expr} {tp} {sc : Scope} {tc} {q : Str} {pos : Pos}
    (hs : prg.main.body[18]? = some (.FunctionDef nm ps body dl re tp sc tc q pos)) (hf : IsFn X ("law" : Str) (ps.args.map (·.arg)) body sc) : ValidF X (k + 1) ("law" : Str) goalT := by
  cases hs
  have hf : IsFn X ("law" : Str) ["_law_script"] _ _ := hf
  refine valid_fn (n := 60) cx ok hf (by decide +kernel) ?_
  rintro _ σ K ⟨i, ns, rfl, h1, h63, hK⟩
  have h2 : ns.length ≤ 900000 := by omega
  refine ⟨rfl, ?_⟩
  dsimp only
  walk_at "mine_steps"
  refine ⟨i, ns, 1, rfl, h1, by omega, ?_⟩
  walk_at "mine_steps"
  refine ⟨i, ns, 2, rfl, Grown.refl.snoc.items h1, by omega, ?_⟩
  walk_at "mine_steps"
  obtain ⟨b, hb⟩ := pick_side (cellAt ns 2)
  refine r_itemL itemsAt_new ⟨by omega, by omega⟩ hb ?_
  walk_at "mine_steps"
  refine ⟨i, ns, 3, rfl, Grown.refl.snoc.items h1, by omega, ?_⟩
  walk_at "mine_steps"
  refine ⟨i, ns, 4, rfl, Grown.refl.snoc.items h1, by omega, ?_⟩
  walk_at "mine_steps"
  apply if_joinG ("_law_limit" : Str)
  focus (((repeat (walk_at "mine_look")); done))
  · intro hc R hr
    walk_at "mine_steps"
    refine ⟨i, ns, 4, rfl, Grown.refl.snoc.snoc.items h1, by omega, ?_⟩
    walk_at "mine_steps"
    refine r_itemL itemsAt_new (by omega) (pick_int [0, 1000000000, 1, 999999999] (by simp; omega)) ?_
    walk_at "mine_steps"
    exact hr _ Grown.refl.snoc
  intro τ hg
  obtain ⟨lim, elim, l0, l1⟩ : ∃ l, (if decide (cellAt ns 4 % 3 = 1) = true then ([0, 1000000000, 1, 999999999] : List Int).getD (cellAt ns 4 / 3 % 4).toNat 0 else cellAt ns 1 % 1000000001) = l ∧ 0 ≤ l ∧ l ≤ 1000000000 := by
    refine ⟨_, rfl, ?_⟩
    split
    · have : (cellAt ns 4 / 3 % 4).toNat = 0 ∨ (cellAt ns 4 / 3 % 4).toNat = 1 ∨ (cellAt ns 4 / 3 % 4).toNat = 2 ∨ (cellAt ns 4 / 3 % 4).toNat = 3 := by omega
      rcases this with h | h | h | h <;> rw [h] <;> decide
    · omega
  rw [elim]
  have g₁ : Grown σ τ := Grown.refl.snoc.trans hg
  walk_at "mine_steps"
  refine ⟨i, ns, 4, rfl, g₁.items h1, by omega, ?_⟩
  walk_at "mine_steps"
  apply if_joinG ("_law_amount" : Str)
  focus (((repeat (walk_at "mine_look")); done))
  · intro hc R hr
    walk_at "mine_steps"
    refine ⟨i, ns, 4, rfl, g₁.snoc.items h1, by omega, ?_⟩
    walk_at "mine_steps"
    refine r_itemL itemsAt_new (by omega) (pick_int [1, 1000000, 2, 999999] (by simp; omega)) ?_
    walk_at "mine_steps"
    exact hr _ Grown.refl.snoc
  intro υ hh
  obtain ⟨amt, eamt, a0, a1⟩ : ∃ l, (if decide (cellAt ns 4 % 3 = 2) = true then ([1, 1000000, 2, 999999] : List Int).getD (cellAt ns 4 / 3 % 4).toNat 0 else 1 + cellAt ns 3 % 1000000) = l ∧ 1 ≤ l ∧ l ≤ 1000000 := by
    refine ⟨_, rfl, ?_⟩
    split
    · have : (cellAt ns 4 / 3 % 4).toNat = 0 ∨ (cellAt ns 4 / 3 % 4).toNat = 1 ∨ (cellAt ns 4 / 3 % 4).toNat = 2 ∨ (cellAt ns 4 / 3 % 4).toNat = 3 := by omega
      rcases this with h | h | h | h <;> rw [h] <;> decide
    · omega
  rw [eamt]
  have g₂ : Grown σ υ := g₁.trans hh
  walk_at "mine_steps"
  refine ⟨i, ns, 0, rfl, g₂.items h1, by omega, ?_⟩
  walk_at "mine_steps"
  have ok : Wish.ok ⟨b, lim, amt⟩ := ⟨l0, l1, a0, a1⟩
  refine ⟨fun hc => ?_, fun hc => ?_⟩
  · have hc' := of_decide_eq_true hc
    walk_at "mine_steps"
    refine ⟨i, ns, 5, rfl, g₂.items h1, by omega, ?_⟩
    walk_at "mine_steps"
    refine ⟨⟨b, lim, amt⟩, _, _, rfl, by omega, by omega, ok, fun v τ' g₃ hbad => ?_⟩
    walk_at "mine_steps"
    refine ⟨_, rfl, .inr ⟨hbad, ?_⟩⟩
    walk_at "mine_steps"
    refine ⟨("BadWish", "wish "), by simp [sixNames], rfl, ?_⟩
    walk_at "mine_steps"
    exact ret_data (g₂.trans g₃) hK
  · have hc' := of_decide_eq_false hc
    walk_at "mine_steps"
    refine ⟨_, rfl, .inl ⟨⟨b, lim, amt⟩, ok, rfl, ?_⟩⟩
    walk_at "mine_steps"
    refine isi_of isi_tup ?_
    walk_at "mine_steps"
    refine ⟨by simp, ?_⟩
    walk_at "mine_steps"
    refine isi_of isi_ss ?_
    walk_at "mine_steps"
    refine ⟨_, rfl, ?_⟩
    walk_at "mine_steps"
    refine ⟨_, rfl, ?_⟩
    walk_at "mine_steps"
    refine ⟨(Wish.mk b lim amt).d, (Wish.mk b lim amt).d, rfl, rfl, shaped_wish _, shaped_wish _, ?_⟩
    rw [Wish.eqv_refl]
    walk_at "mine_steps"
    exact ret_data g₂ hK

end Mine

open PySem PySem.W PyProof.Rows
set_option Elab.async false
set_option linter.unusedSimpArgs false
local macro_rules | `(tactic| walk_at "mine_fn") => `(tactic| (first | assumption | decide +kernel | (simp only [Mine.Sig.add, Mine.baseSig, Mine.handSig, Mine.emptySig, Mine.ofString_inj, String.reduceEq, reduceIte, List.lookup_cons, List.lookup_nil, Mine.ofString_beq, String.reduceBEq]; done) | (simp only [Mine.Sig.add, Mine.baseSig, Mine.handSig, Mine.emptySig, Mine.ofString_inj, String.reduceEq, reduceIte, List.lookup_cons, List.lookup_nil, Mine.ofString_beq, String.reduceBEq]; rfl)))
set_option maxRecDepth 100000 in
set_option maxHeartbeats 8000000 in
theorem PySem.Challenge.cw_uf040040_02_holds : PySem.Challenge.rw_uf040040_02.Holds := by
  w_on
  o_law
  k_head
  (case hw => w_witness2)
  k_fill
  intro w s₀ s₁ mg mb G Y fa o pm cd doc dV kV ho hd hcd hD hmg hg args vals as hpre hlay hrd hwl hlo
  have KX := kIn_of Y
  refine Ground.open G ?_
  intro T B D TE TW
  wrow_args hpre hlay hrd hwl hlo
  clear hd hcd hD ho Y B D TE TW G
  open Mine in
  refine Mine.law_end (k := 109) (X := ⟨_, w, s₁.heap, mg, mb⟩) ?_ (by decide) hmg rfl (by assumption) (by assumption) ?_
  · have cx : CxOk ⟨Challenge.rw_uf040040_02.row.prog, w, s₁.heap, mg, mb⟩ := cx_of_top T
    have cxb : CxB ⟨Challenge.rw_uf040040_02.row.prog, w, s₁.heap, mg, mb⟩ := cxb_of_top T (by decide +kernel)
    have ce : CxE famAll ⟨Challenge.rw_uf040040_02.row.prog, w, s₁.heap, mg, mb⟩ := ⟨_, fam_of (by kernel_rfl), KX⟩
    have TR := W.topRead_of T
    have hcs : ∀ q ∈ ([("TOP", .int 1000000000), ("MOST", .int 1000000)] : List (Str × PyData)), ∃ v, Cx.val ⟨Challenge.rw_uf040040_02.row.prog, w, s₁.heap, mg, mb⟩ q.1 = some v ∧ ∀ h, Reads h v q.2 [] := fun q hq => by
      simp only [List.mem_cons, List.not_mem_nil, or_false] at hq
      rcases hq with rfl | rfl
      all_goals exact const_of_top T (by kernel_rfl)
    have hn : ValidF ⟨Challenge.rw_uf040040_02.row.prog, w, s₁.heap, mg, mb⟩ 99 ("_law_names" : Str) namesT := (v_names (fam := famAll) (Γ := handSig [("TOP", .int 1000000000), ("MOST", .int 1000000)] famAll) cx (handSig_ok cxb cx ce TR hcs) (by walk_at "mine_fn") (by walk_at "mine_fn") (by walk_at "mine_fn") (by walk_at "mine_fn") (by walk_at "mine_fn") (by walk_at "mine_fn") (by walk_at "mine_fn") (by walk_at "mine_fn") (by walk_at "mine_fn") (by walk_at "mine_fn") (by walk_at "mine_fn") (by walk_at "mine_fn") (by walk_at "mine_fn") (by walk_at "mine_fn") (by walk_at "mine_fn") (by walk_at "mine_fn") rfl (isFn_of_top T 4 (by kernel_rfl) rfl rfl rfl rfl)).mono (by decide)
    have s0 := baseSig_ok (fnH := fun x => if x = ("_law_names" : Str) then some namesT else none) cxb cx ce TR hcs (fun x T' hx => by
      try dsimp only at hx
      split at hx
      · rename_i e; cases hx; rw [e]; exact hn
      · cases hx)
    have s1 := s0.add (v_num (fam := famAll) cx s0 (by walk_at "mine_fn") (by walk_at "mine_fn") (by walk_at "mine_fn") (by walk_at "mine_fn") (by walk_at "mine_fn") (by walk_at "mine_fn") (by walk_at "mine_fn") rfl (isFn_of_top T 0 (by kernel_rfl) rfl rfl rfl rfl))
    have s2 := s1.add (v_checked (fam := famAll) cx s1 (by walk_at "mine_fn") (by walk_at "mine_fn") (by walk_at "mine_fn") (by walk_at "mine_fn") (by walk_at "mine_fn") (by walk_at "mine_fn") (by walk_at "mine_fn") (by walk_at "mine_fn") (by walk_at "mine_fn") (by walk_at "mine_fn") (by walk_at "mine_fn") (by walk_at "mine_fn") (by walk_at "mine_fn") (by walk_at "mine_fn") rfl (isFn_of_top T 1 (by kernel_rfl) rfl rfl rfl rfl))
    have s3 := s2.add (v_cell_at (fam := famAll) cx s2 (by walk_at "mine_fn") (by walk_at "mine_fn") (by walk_at "mine_fn") rfl (isFn_of_top T 2 (by kernel_rfl) rfl rfl rfl rfl))
    have s4 := s3.add (v_whole (fam := famAll) cx s3 (by walk_at "mine_fn") (by walk_at "mine_fn") (by walk_at "mine_fn") (by walk_at "mine_fn") (by walk_at "mine_fn") (by walk_at "mine_fn") (by walk_at "mine_fn") rfl (isFn_of_top T 3 (by kernel_rfl) rfl rfl rfl rfl))
    have s5 := s4.add (v_names (fam := famAll) cx s4 (by walk_at "mine_fn") (by walk_at "mine_fn") (by walk_at "mine_fn") (by walk_at "mine_fn") (by walk_at "mine_fn") (by walk_at "mine_fn") (by walk_at "mine_fn") (by walk_at "mine_fn") (by walk_at "mine_fn") (by walk_at "mine_fn") (by walk_at "mine_fn") (by walk_at "mine_fn") (by walk_at "mine_fn") (by walk_at "mine_fn") (by walk_at "mine_fn") (by walk_at "mine_fn") rfl (isFn_of_top T 4 (by kernel_rfl) rfl rfl rfl rfl))
    have s6 := s5.add (v_spoilt (fam := famAll) cx s5 (by walk_at "mine_fn") rfl (isFn_of_top T 5 (by kernel_rfl) rfl rfl rfl rfl))
    exact v_goal (fam := famAll) cx s6 (by walk_at "mine_fn") (by walk_at "mine_fn") (by walk_at "mine_fn") (by walk_at "mine_fn") (by walk_at "mine_fn") (by walk_at "mine_fn") (by walk_at "mine_fn") (by walk_at "mine_fn") (by walk_at "mine_fn") (by walk_at "mine_fn") (by walk_at "mine_fn") (by walk_at "mine_fn") (by walk_at "mine_fn") (by walk_at "mine_fn") (by walk_at "mine_fn") (by walk_at "mine_fn") (by walk_at "mine_fn") (by walk_at "mine_fn") (by walk_at "mine_fn") (by walk_at "mine_fn") (by walk_at "mine_fn") rfl (isFn_of_top T 6 (by kernel_rfl) rfl rfl rfl rfl)
  · intro h' tk hk
    exact GoodW.toG ⟨.inl ⟨_, .bool true, [], rfl, fun _ => rfl, .bool _, (by first | kernel_rfl | (with_unfolding_all rfl)), fun _ => ⟨List.nodup_nil, fun a ha => by cases ha⟩⟩, hk, rfl, hg⟩
