import PyProof.Rows.All
import PyProof.CompFree
import PyProof.Cells
import PyProof.Rows.Top
import PyProof.StationsW
import PyProof.WalkInts
import PyProof.WalksMore
import PyProof.RangeFor
import PyProof.CompMap
import PyProof.SliceMore
import PyProof.EqLayable
import PyProof.ListOps
import PyProof.Rows.StrTemp
import PyProof.Rows.RuleB_floordiv
import PyProof.Rows.RuleB_mod
import PyProof.Rows.RuleB_mul
import PyProof.Rows.RuleU_int
import PyProof.Rows.StrRules
import PyProof.Rows.RuleC_int
import PyProof.Rows.Nodes
import PyProof.Rows.IntRules
import PyProof.Rows.EqDataRows
import PyProof.Rows.InDataRows
import PyProof.Rows.SeqCalls
import PyProof.Calls
import PyProof.Rows.Own
import PyProof.ForRange
import PyProof.Rules3
import PyProof.Dict
import PyProof.TupleIter
import PyProof.Rows.TupSub
import PyProof.CallRoads
import PyProof.RulesAs
import PyProof.NsDelKeeps
import PyProof.ExcBaseAll.ValueError
import PyProof.ZipIter
import PyProof.ForAny
import PyProof.Raises
import PyProof.IsiPairs
import PyProof.IsiHeapPairs
import PyProof.IsiNone
import PyProof.ListCopy
import PyProof.Methods
import PyProof.StrOps
import PyProof.Rows.SumAny
import PyProof.Rows.RuleN_abs
import PyProof.FactsAll.list_0
import PyProof.Rows.Tup
import KE.KIsNot
import PyProof.ExcAttrAll.ValueError
import Wide.Well
import Wide.OfPy
import Wide.Bridge
import Wide.BridgeG
import PyProof.Rows.Walk
import PyProof.Rows.TupMore
import Wide.All
import OpenK.AllK
import Wide.FinOn
import PySem.Challenge.RW_uf040040_09

set_option Elab.async false
set_option autoImplicit false
set_option linter.unusedVariables false
namespace Mine
open PySem PySem.Spec PySem.Calls PyProof.Rows
inductive V where
  | d (x : PyData)
  | ref (i : Nat)
  | exc (c : Str)
  | glob (x : Str)
  | rng (lo hi : Int)
  | zip (i j : Nat)
inductive Cell where
  | lst (xs : List V)
  | rol (xs : List V)
  | dct
noncomputable def Cell.items : Cell → List V
  | .lst xs => xs
  | .rol xs => xs
  | .dct => []
noncomputable def Cell.list? : Cell → Option (List V)
  | .lst xs => some xs
  | .rol xs => some xs
  | .dct => none
noncomputable def Cell.owned : Cell → Bool
  | .lst _ => true
  | .rol _ => false
  | .dct => true
noncomputable def Cell.Shape (c : Cell) (o : Obj) (items : List Value) : Prop :=
  match c with
  | .dct => o.cls = .type "dict" ∧ ∃ es n, o.data = .dict es n
  | _ => ∃ n, o = { cls := .type "list", data := .seq items.toArray n }
noncomputable abbrev Store := List Cell
noncomputable abbrev Loc := Str → Option V
structure Cx where
  prog : Program
  w : World
  B : Heap
  mg : Str → Option Value
  mb : Str → Option Value
  bad : Addr → Prop
noncomputable def Cx.hide (X : Cx) (b : Addr → Prop) : Cx := { X with bad := b }
structure CxOk (X : Cx) : Prop where
  g : X.B.Ns mainGlobals X.mg
  b : X.B.Ns builtinsNs X.mb
  nolimit : X.B.NoLimit
noncomputable def Cx.val (X : Cx) (x : Str) : Option Value := (X.mg x).or (X.mb x)
mutual
/-- flat data that reads no hidden tuple -/
inductive RdC (bad : Addr → Prop) (h : Heap) : Value → PyData → Prop
  | none : RdC bad h .none .none
  | bool (b : Bool) : RdC bad h (.bool b) (.bool b)
  | int (i : Int) (t : Tok) : RdC bad h (.int i t) (.int i)
  | str (x : Str) (t : Tok) : RdC bad h (.str x t) (.str x)
  | tuple {a o vs n xs} : h.get? a = some o → o.cls = .type "tuple" → o.data = .seq vs n → ¬ bad a → RdsC bad h vs.toList xs → RdC bad h (.ref a) (.tuple xs)
inductive RdsC (bad : Addr → Prop) (h : Heap) : List Value → List PyData → Prop
  | nil : RdsC bad h [] []
  | cons {v d vs ds} : RdC bad h v d → RdsC bad h vs ds → RdsC bad h (v :: vs) (d :: ds)
end
mutual
theorem RdC.reads {bad : Addr → Prop} {h : Heap} : ∀ {v : Value} {d : PyData}, RdC bad h v d → Reads h v d []
  | _, _, .none => .none
  | _, _, .bool b => .bool b
  | _, _, .int i t => .int i t
  | _, _, .str x t => .str x t
  | _, _, .tuple h1 h2 h3 _ h4 => .tuple h1 h2 h3 h4.reads
theorem RdsC.reads {bad : Addr → Prop} {h : Heap} : ∀ {vs : List Value} {ds : List PyData}, RdsC bad h vs ds → ReadsAll h vs ds []
  | _, _, .nil => .nil
  | _, _, .cons h1 h2 => .cons h1.reads h2.reads
end
mutual
/-- from heap to heap, from hidden ones to others -/
theorem RdC.to {bad bad' : Addr → Prop} {h h' : Heap} (hb : ∀ b o, h.get? b = some o → bad' b → bad b) (hk : ∀ b o, h.get? b = some o → o.cls = .type "tuple" → (∃ vs n, o.data = .seq vs n) → ¬ bad b → h'.get? b = some o) : ∀ {v : Value} {d : PyData}, RdC bad h v d → RdC bad' h' v d
  | _, _, .none => .none
  | _, _, .bool b => .bool b
  | _, _, .int i t => .int i t
  | _, _, .str x t => .str x t
  | _, _, .tuple h1 h2 h3 hn h4 => .tuple (hk _ _ h1 h2 ⟨_, _, h3⟩ hn) h2 h3 (fun q => hn (hb _ _ h1 q)) (h4.to hb hk)
theorem RdsC.to {bad bad' : Addr → Prop} {h h' : Heap} (hb : ∀ b o, h.get? b = some o → bad' b → bad b) (hk : ∀ b o, h.get? b = some o → o.cls = .type "tuple" → (∃ vs n, o.data = .seq vs n) → ¬ bad b → h'.get? b = some o) : ∀ {vs : List Value} {ds : List PyData}, RdsC bad h vs ds → RdsC bad' h' vs ds
  | _, _, .nil => .nil
  | _, _, .cons h1 h2 => .cons (h1.to hb hk) (h2.to hb hk)
end
theorem RdsC.get {bad : Addr → Prop} {h : Heap} : ∀ {vs : List Value} {xs : List PyData}, RdsC bad h vs xs → ∀ {j : Nat} {x : PyData}, xs[j]? = some x → ∃ v, vs[j]? = some v ∧ RdC bad h v x
  | _, _, .nil, j, x, e => by simp at e
  | _, _, .cons h1 h2, j, x, e => by
    cases j with
    | zero => simp at e; subst e; exact ⟨_, rfl, h1⟩
    | succ j => simpa using h2.get (by simpa using e)
inductive Has (X : Cx) (n : Nat) (ρ : Nat → Addr) (h : Heap) : V → Value → Prop
  | d {x v} : RdC X.bad h v x → Has X n ρ h (.d x) v
  | ref {i} : i < n → Has X n ρ h (.ref i) (.ref (ρ i))
  | exc {c C a o fs} : X.mg c = some (.ref C) → h.get? a = some o → o.cls = .ref C → o.data = .fields fs → o.dict = none → Has X n ρ h (.exc c) (.ref a)
  | glob {x v} : X.val x = some v → Has X n ρ h (.glob x) v
  | rng {lo hi a t u v} : IsRange h a lo hi 1 t u v → Builtin.Range.small lo hi 1 = true → Has X n ρ h (.rng lo hi) (.ref a)
inductive HasAll (X : Cx) (n : Nat) (ρ : Nat → Addr) (h : Heap) : List V → List Value → Prop
  | nil : HasAll X n ρ h [] []
  | cons {v vs a as} : Has X n ρ h v a → HasAll X n ρ h vs as → HasAll X n ρ h (v :: vs) (a :: as)
noncomputable def CellAt (X : Cx) (n : Nat) (ρ : Nat → Addr) (h : Heap) (a : Addr) (c : Cell) : Prop :=
  ∃ (o : Obj) (items : List Value), h.get? a = some o ∧ c.Shape o items ∧ HasAll X n ρ h c.items items
theorem Cell.Shape.is {c : Cell} {o : Obj} {items : List Value} (s : c.Shape o items) : o.cls = .type "list" ∧ (∃ vs n, o.data = .seq vs n) ∨ o.cls = .type "dict" ∧ ∃ es n, o.data = .dict es n := by
  cases c with
  | dct => exact .inr s
  | lst xs => obtain ⟨n, rfl⟩ := s; exact .inl ⟨rfl, _, _, rfl⟩
  | rol xs => obtain ⟨n, rfl⟩ := s; exact .inl ⟨rfl, _, _, rfl⟩
structure Rep (X : Cx) (ρ : Nat → Addr) (σ : Store) (h : Heap) : Prop where
  base : ∀ b o, X.B.get? b = some o → h.get? b = some o
  cell : ∀ i c, σ[i]? = some c → CellAt X σ.length ρ h (ρ i) c
  own : ∀ i c, σ[i]? = some c → c.owned = true → X.B.get? (ρ i) = none
  inj : ∀ i j, i < σ.length → j < σ.length → ρ i = ρ j → i = j
  bad : ∀ b, X.bad b → ∃ o vs n, h.get? b = some o ∧ o.cls = .type "tuple" ∧ o.data = .seq vs n
noncomputable def NoDict (o : Obj) : Prop := ∀ es n, o.data ≠ .dict es n
structure Go (W : Addr → Prop) (σ : Store) (ρ : Nat → Addr) (h : Heap) (σ' : Store) (ρ' : Nat → Addr) (h' : Heap) : Prop where
  size : h.objs.size ≤ h'.objs.size
  keep : ∀ b o, h.get? b = some o → ¬ W b → (∀ i, i < σ.length → b ≠ ρ i) → ∃ sl, h'.get? b = some { o with slots := sl } ∧ (NoDict o → sl = o.slots)
  dicts : ∀ b o es n, h.get? b = some o → o.data = .dict es n → ∃ o' es' n', h'.get? b = some o' ∧ o'.data = .dict es' n'
  len : σ.length ≤ σ'.length
  ext : ∀ i, i < σ.length → ρ' i = ρ i
  new : ∀ i, σ.length ≤ i → i < σ'.length → h.objs.size ≤ ρ' i
noncomputable abbrev Nowhere : Addr → Prop := fun _ => False
theorem Go.refl (W : Addr → Prop) (σ : Store) (ρ : Nat → Addr) (h : Heap) : Go W σ ρ h σ ρ h :=
  ⟨Nat.le_refl _, fun b o e _ _ => ⟨o.slots, e, fun _ => rfl⟩, fun b o es n e d => ⟨o, es, n, e, d⟩, Nat.le_refl _, fun _ _ => rfl, fun _ h1 h2 => absurd h2 (Nat.not_lt.mpr h1)⟩
theorem Go.trans {W : Addr → Prop} {σ₁ σ₂ σ₃ : Store} {ρ₁ ρ₂ ρ₃ : Nat → Addr} {h₁ h₂ h₃ : Heap} (x : Go W σ₁ ρ₁ h₁ σ₂ ρ₂ h₂) (y : Go W σ₂ ρ₂ h₂ σ₃ ρ₃ h₃) : Go W σ₁ ρ₁ h₁ σ₃ ρ₃ h₃ where
  size := Nat.le_trans x.size y.size
  keep := fun b o e hw hb => by
    obtain ⟨sl, e1, f1⟩ := x.keep b o e hw hb
    have hb2 : ∀ i, i < σ₂.length → b ≠ ρ₂ i := fun i hi => by
      by_cases hlt : i < σ₁.length
      · rw [x.ext i hlt]; exact hb i hlt
      · exact Nat.ne_of_lt (Nat.lt_of_lt_of_le (Heap.lt_size e) (x.new i (Nat.not_lt.mp hlt) hi))
    obtain ⟨sl', e2, f2⟩ := y.keep b _ e1 hw hb2
    exact ⟨sl', e2, fun hc => (f2 hc).trans (f1 hc)⟩
  dicts := fun b o es n e d => by
    obtain ⟨o', es', n', e', d'⟩ := x.dicts b o es n e d
    exact y.dicts b o' es' n' e' d'
  len := Nat.le_trans x.len y.len
  ext := fun i hi => (y.ext i (Nat.lt_of_lt_of_le hi x.len)).trans (x.ext i hi)
  new := fun i h1 h2 => by
    by_cases hlt : i < σ₂.length
    · rw [y.ext i hlt]; exact x.new i h1 hlt
    · exact Nat.le_trans x.size (y.new i (Nat.not_lt.mp hlt) h2)
theorem Go.weaken {W W' : Addr → Prop} {σ σ' : Store} {ρ ρ' : Nat → Addr} {h h' : Heap} (x : Go W σ ρ h σ' ρ' h') (hw : ∀ b o, h.get? b = some o → W b → W' b) : Go W' σ ρ h σ' ρ' h' :=
  { x with keep := fun b o e hn hb => x.keep b o e (fun q => hn (hw b o e q)) hb }
noncomputable def iterTypes : List String := ["list_iterator", "tuple_iterator", "range_iterator", "zip", "str_ascii_iterator", "str_iterator"]
structure Still (o : Obj) : Prop where
  cls : o.cls ≠ .type "list"
  noiter : ∀ T ∈ iterTypes, o.cls ≠ .type T
  nodict : NoDict o
  nocell : ∀ v, o.data ≠ .cell v
theorem Still.tuple {o : Obj} (hc : o.cls = .type "tuple") {vs n} (hd : o.data = .seq vs n) : Still o :=
  ⟨by rw [hc]; decide, by rw [hc]; decide, fun es n' e => by rw [hd] at e; (exact nomatch e), fun v e => by rw [hd] at e; (exact nomatch e)⟩
theorem Still.fields {o : Obj} (hc : o.cls ≠ .type "list") (hi : ∀ T ∈ iterTypes, o.cls ≠ .type T) {vs} (hd : o.data = .fields vs) : Still o :=
  ⟨hc, hi, fun es n' e => by rw [hd] at e; (exact nomatch e), fun v e => by rw [hd] at e; (exact nomatch e)⟩
section
variable {X : Cx} {n n' : Nat} {ρ ρ' : Nat → Addr} {h h' : Heap} {σ σ' : Store} {W : Addr → Prop}
theorem HasAll.length {vs : List V} {as : List Value} (x : HasAll X n ρ h vs as) : vs.length = as.length := by
  induction x with
  | nil => rfl
  | cons _ _ ih => simp [ih]
theorem HasAll.get {vs : List V} {as : List Value} (x : HasAll X n ρ h vs as) {k : Nat} {v : V} (hv : vs[k]? = some v) : ∃ a, as[k]? = some a ∧ Has X n ρ h v a := by
  induction x generalizing k with
  | nil => simp at hv
  | cons h1 _ ih =>
    cases k with
    | zero => simp at hv; subst hv; exact ⟨_, rfl, h1⟩
    | succ k => simpa using ih (by simpa using hv)
theorem HasAll.append {vs ws : List V} {as bs : List Value} (x : HasAll X n ρ h vs as) (y : HasAll X n ρ h ws bs) : HasAll X n ρ h (vs ++ ws) (as ++ bs) := by
  induction x with
  | nil => exact y
  | cons h1 _ ih => exact .cons h1 ih
theorem HasAll.one {v : V} {a : Value} (x : Has X n ρ h v a) : HasAll X n ρ h [v] [a] := .cons x .nil
theorem Has.mono {v : V} {a : Value} (x : Has X n ρ h v a) (hn : n ≤ n') (hρ : ∀ i, i < n → ρ' i = ρ i)
    (hk : ∀ b o, h.get? b = some o → Still o → h'.get? b = some o) : Has X n' ρ' h' v a := by
  cases x with
  | d r => exact .d (r.to (fun _ _ _ q => q) fun b o e hc hs _ => let ⟨_, _, hd⟩ := hs; hk b o e (.tuple hc hd))
  | ref hi => rw [← hρ _ hi]; exact .ref (Nat.lt_of_lt_of_le hi hn)
  | exc h1 h2 h3 h4 h5 => exact .exc h1 (hk _ _ h2 (.fields (by rw [h3]; exact fun e => nomatch e) (by rw [h3]; exact fun _ _ e => nomatch e) h4)) h3 h4 h5
  | glob h1 => exact .glob h1
  | rng h1 h2 => exact .rng (hk _ _ h1 (.fields (show Value.type "range" ≠ .type "list" by decide) (show ∀ T ∈ iterTypes, Value.type "range" ≠ .type T by decide) rfl)) h2
theorem HasAll.mono {vs : List V} {as : List Value} (x : HasAll X n ρ h vs as) (hn : n ≤ n') (hρ : ∀ i, i < n → ρ' i = ρ i)
    (hk : ∀ b o, h.get? b = some o → Still o → h'.get? b = some o) : HasAll X n' ρ' h' vs as := by
  induction x with
  | nil => exact .nil
  | cons h1 _ ih => exact .cons (h1.mono hn hρ hk) ih
theorem Rep.notCell (R : Rep X ρ σ h) {b : Addr} {o : Obj} (e : h.get? b = some o) (ho : o.cls ≠ .type "list") (hd : NoDict o) : ∀ i, i < σ.length → b ≠ ρ i := by
  rintro i hi rfl
  obtain ⟨oc, items, hp, sh, _⟩ := R.cell i _ (List.getElem?_eq_getElem hi)
  rw [hp] at e
  cases e
  rcases sh.is with ⟨q, _⟩ | ⟨_, es, n, q⟩
  · exact ho q
  · exact hd _ _ q
theorem Rep.badKeep (R : Rep X ρ σ h) (hk : ∀ b o, h.get? b = some o → Still o → h'.get? b = some o) : ∀ b, X.bad b → ∃ o vs n, h'.get? b = some o ∧ o.cls = .type "tuple" ∧ o.data = .seq vs n := fun b q =>
  let ⟨o, vs, n, e, c, d⟩ := R.bad b q
  ⟨o, vs, n, hk b o e (.tuple c d), c, d⟩
noncomputable def WOk (W : Addr → Prop) (h : Heap) : Prop := ∀ b o, W b → h.get? b = some o → (∃ es n, o.data = .dict es n) ∨ ∃ v, o.data = .cell v
theorem WOk.nowhere : WOk Nowhere h := fun _ _ x => x.elim
theorem Go.still (R : Rep X ρ σ h) (g : Go W σ ρ h σ' ρ' h') (w : WOk W h) : ∀ b o, h.get? b = some o → Still o → h'.get? b = some o := by
  intro b o e hs
  have hnw : ¬ W b := fun q => by
    rcases w b o q e with ⟨es, n, hd⟩ | ⟨v, hd⟩
    · exact hs.nodict es n hd
    · exact hs.nocell v hd
  obtain ⟨sl, e1, f1⟩ := g.keep b o e hnw (R.notCell e hs.cls hs.nodict)
  rw [f1 hs.nodict] at e1
  exact e1
theorem Has.go {v : V} {a : Value} (x : Has X σ.length ρ h v a) (R : Rep X ρ σ h) (g : Go W σ ρ h σ' ρ' h') (w : WOk W h) : Has X σ'.length ρ' h' v a :=
  x.mono g.len g.ext (g.still R w)
theorem HasAll.go {vs : List V} {as : List Value} (x : HasAll X σ.length ρ h vs as) (R : Rep X ρ σ h) (g : Go W σ ρ h σ' ρ' h') (w : WOk W h) : HasAll X σ'.length ρ' h' vs as :=
  x.mono g.len g.ext (g.still R w)
end
noncomputable def Wr (env : Env) : Addr → Prop := fun b => b = env.locals ∨ ∃ x, env.cells.lookup x = some b
noncomputable abbrev Kinds := Str → Option NameKind
structure KindsOk (sc : Kinds) (env : Env) : Prop where
  loc : ∀ x, sc x = some .local → env.kindOf x = some .local
  cell : ∀ x, sc x = some .cell → env.kindOf x = some .cell
  free : ∀ x, sc x = some .free → env.kindOf x = some .cell ∨ env.kindOf x = some .free
  glob : ∀ x, sc x = some .globalImplicit → env.kindOf x = some .globalImplicit
  debug : sc ("__debug__" : Str) = none
  classdict : sc ("__classdict__" : Str) = none
structure Frm (X : Cx) (env : Env) (sc : Kinds) (m : Loc) (n : Nat) (ρ : Nat → Addr) (h : Heap) : Prop where
  kind : env.scope.kind = .function
  glob : env.globals = mainGlobals
  bi : env.builtins = builtinsNs
  kinds : KindsOk sc env
  ns : ∃ mm, h.Ns env.locals mm ∧ ∀ x v, sc x = some .local → m x = some v → ∃ a, mm x = some a ∧ Has X n ρ h v a
  cells : ∀ x, sc x = some .cell ∨ sc x = some .free → ∃ c ov, env.cells.lookup x = some c ∧ h.IsCell c ov ∧ ∀ v, m x = some v → ∃ a, ov = some a ∧ Has X n ρ h v a
  isCells : ∀ x c, env.cells.lookup x = some c → ∃ ov, h.IsCell c ov
  sepL : ∀ i, i < n → ρ i ≠ env.locals
  newL : X.B.get? env.locals = none
  newC : ∀ x c, env.cells.lookup x = some c → X.B.get? c = none
  apart : ∀ x y c, env.cells.lookup x = some c → env.cells.lookup y = some c → x = y
theorem Frm.wok {X : Cx} {env : Env} {sc : Kinds} {m : Loc} {n : Nat} {ρ : Nat → Addr} {h : Heap} (F : Frm X env sc m n ρ h) : WOk (Wr env) h := by
  rintro b o (rfl | ⟨x, hx⟩) e
  · obtain ⟨mm, ⟨o', es, ep, e', d, _⟩, _⟩ := F.ns
    rw [e] at e'; cases e'
    exact .inl ⟨es, ep, d⟩
  · obtain ⟨ov, o', e', d⟩ := F.isCells x b hx
    rw [e] at e'; cases e'
    exact .inr ⟨ov, d⟩
theorem Frm.go {X : Cx} {env : Env} {sc : Kinds} {m : Loc} {σ σ' : Store} {ρ ρ' : Nat → Addr} {h h' : Heap} (F : Frm X env sc m σ.length ρ h) (R : Rep X ρ σ h) (g : Go Nowhere σ ρ h σ' ρ' h') : Frm X env sc m σ'.length ρ' h' := by
  have hnc : ∀ c ov, h.IsCell c ov → h'.IsCell c ov := fun c ov ⟨o, e, d⟩ => by
    have hne : ∀ i, i < σ.length → c ≠ ρ i := by
      rintro i hi rfl
      obtain ⟨oc, items, hp, sh, _⟩ := R.cell i _ (List.getElem?_eq_getElem hi)
      rw [hp] at e; cases e
      rcases sh.is with ⟨_, _, _, q⟩ | ⟨_, _, _, q⟩ <;> (rw [q] at d; cases d)
    obtain ⟨sl, e1, _⟩ := g.keep c o e (fun x => x) hne
    exact ⟨_, e1, d⟩
  refine { F with ns := ?_, cells := ?_, isCells := ?_, sepL := ?_ }
  · obtain ⟨mm, ⟨o, es, ep, e, d, r⟩, hm⟩ := F.ns
    obtain ⟨sl, e1, _⟩ := g.keep _ o e (fun x => x) (fun i hi q => F.sepL i hi q.symm)
    exact ⟨mm, ⟨_, es, ep, e1, d, r⟩, fun x v h1 h2 => let ⟨a, h3, h4⟩ := hm x v h1 h2; ⟨a, h3, h4.go R g .nowhere⟩⟩
  · intro x hx
    obtain ⟨c, ov, h1, h2, h3⟩ := F.cells x hx
    exact ⟨c, ov, h1, hnc c ov h2, fun v hv => let ⟨a, h4, h5⟩ := h3 v hv; ⟨a, h4, h5.go R g .nowhere⟩⟩
  · intro x c hx
    obtain ⟨ov, h1⟩ := F.isCells x c hx
    exact ⟨ov, hnc c ov h1⟩
  · intro i hi
    by_cases hlt : i < σ.length
    · rw [g.ext i hlt]; exact F.sepL i hlt
    · obtain ⟨mm, ⟨o, es, ep, e, d, r⟩, hm⟩ := F.ns
      exact Nat.ne_of_gt (Nat.lt_of_lt_of_le (Heap.lt_size e) (g.new i (Nat.not_lt.mp hlt) hi))
noncomputable def Frames (X : Cx) (h : Heap) (l : List Env) : Prop := ∀ env ∈ l, env.scope.kind ≠ .module ∧ ∃ L o es n, env.frame = some L ∧ X.B.get? L = none ∧ h.get? L = some o ∧ o.data = .dict es n
theorem Frames.go {X : Cx} {W : Addr → Prop} {σ σ' : Store} {ρ ρ' : Nat → Addr} {h h' : Heap} {l : List Env} (F : Frames X h l) (g : Go W σ ρ h σ' ρ' h') : Frames X h' l := by
  intro env he
  obtain ⟨h1, L, o, es, n, h2, h3, h4, h5⟩ := F env he
  obtain ⟨o', es', n', h6, h7⟩ := g.dicts L o es n h4 h5
  exact ⟨h1, L, o', es', n', h2, h3, h6, h7⟩
structure Ar (X : Cx) (k : Nat) (A : Around) (env : Env) (h : Heap) : Prop where
  handled : 100 ≤ k → A.handled = none
  depth : A.depth + k < recursionLimit
  units : A.units + 20 * k + 200 < cLine
  stack : ∃ fenv outer, A.frames = some (fenv :: outer) ∧ fenv.frame = env.frame ∧ Frames X h (fenv :: outer)
structure ArC (X : Cx) (k : Nat) (A : Around) (h : Heap) : Prop where
  handled : 100 ≤ k → A.handled = none
  depth : A.depth + k < recursionLimit
  units : A.units + 20 * k + 200 < cLine
  stack : ∃ l, A.frames = some l ∧ Frames X h l
theorem Ar.c {X : Cx} {k : Nat} {A : Around} {env : Env} {h : Heap} (a : Ar X k A env h) : ArC X k A h :=
  ⟨a.handled, a.depth, a.units, let ⟨f, o, h1, _, h3⟩ := a.stack; ⟨f :: o, h1, h3⟩⟩
theorem Ar.go {X : Cx} {k : Nat} {A : Around} {env : Env} {W : Addr → Prop} {σ σ' : Store} {ρ ρ' : Nat → Addr} {h h' : Heap} (a : Ar X k A env h) (g : Go W σ ρ h σ' ρ' h') : Ar X k A env h' :=
  { a with stack := let ⟨f, o, h1, h2, h3⟩ := a.stack; ⟨f, o, h1, h2, h3.go g⟩ }
theorem Ar.reframe {X : Cx} {k : Nat} {A : Around} {env env' : Env} {h : Heap} (a : Ar X k A env h) (e : env'.frame = env.frame) : Ar X k A env' h :=
  { a with stack := let ⟨f, o, h1, h2, h3⟩ := a.stack; ⟨f, o, h1, h2.trans e.symm, h3⟩ }
structure Flies (X : Cx) (c : Str) (fr : Option Addr) (sz : Nat) (e : Addr) (h : Heap) : Prop where
  ex : ∃ C oe vs, X.mg c = some (.ref C) ∧ h.get? e = some oe ∧ oe.cls = .ref C ∧ (oe.data = .fields vs ∧ oe.dict = none) ∧ 1 < vs.size ∧
    (vs[1]? = some .none ∨ ∃ T oT ts, vs[1]? = some (.ref T) ∧ T ≠ e ∧ sz ≤ T ∧ h.get? T = some oT ∧ oT.data = .fields ts ∧ oT.cls = .type "traceback" ∧ 3 < ts.size ∧ (ts[3]? = some .none ∨ ∃ F, fr = some F ∧ ts[3]? = some (rawInt F)))
  new : sz ≤ e
theorem Flies.sz {X : Cx} {c : Str} {fr : Option Addr} {a b : Nat} {e : Addr} {h : Heap} (x : Flies X c fr a e h) (hab : b ≤ a) : Flies X c fr b e h := by
  obtain ⟨⟨C, oe, vs, h1, h2, h3, h4, h5, h6⟩, hn⟩ := x
  refine ⟨⟨C, oe, vs, h1, h2, h3, h4, h5, h6.imp id ?_⟩, Nat.le_trans hab hn⟩
  rintro ⟨T, oT, ts, a1, a2, a3, r⟩
  exact ⟨T, oT, ts, a1, a2, Nat.le_trans hab a3, r⟩
theorem Flies.any {X : Cx} {c : Str} {fr : Option Addr} {a : Nat} {e : Addr} {h : Heap} (x : Flies X c none a e h) : Flies X c fr a e h := by
  obtain ⟨⟨C, oe, vs, h1, h2, h3, h4, h5, h6⟩, hn⟩ := x
  refine ⟨⟨C, oe, vs, h1, h2, h3, h4, h5, h6.imp id ?_⟩, hn⟩
  rintro ⟨T, oT, ts, a1, a2, a3, a4, a5, a6, a7, a8⟩
  exact ⟨T, oT, ts, a1, a2, a3, a4, a5, a6, a7, a8.imp id fun ⟨F, q, _⟩ => nomatch q⟩
inductive OutE where
  | val (v : V) (σ : Store)
  | exn (c : Str) (σ : Store)
inductive OutS where
  | next (m : Loc) (σ : Store)
  | ret (v : V) (σ : Store)
  | exn (c : Str) (m : Loc) (σ : Store)
noncomputable def OkE (X : Cx) (σ : Store) (ρ : Nat → Addr) (s : Shared) (K : OutE → Prop) (Q : Value → Shared → Prop) : Prop :=
  ∀ v σ' ρ' a h' tk, K (.val v σ') → Rep X ρ' σ' h' → Go Nowhere σ ρ s.heap σ' ρ' h' → Has X σ'.length ρ' h' v a → Q a { s with heap := h', toks := tk }
noncomputable def ErE (X : Cx) (fr : Option Addr) (σ : Store) (ρ : Nat → Addr) (s : Shared) (K : OutE → Prop) (E : Value → Shared → Prop) : Prop :=
  ∀ c σ' ρ' e h' tk, K (.exn c σ') → Rep X ρ' σ' h' → Go Nowhere σ ρ s.heap σ' ρ' h' → Flies X c fr s.heap.objs.size e h' → E (.ref e) { s with heap := h', toks := tk }
noncomputable def SE (X : Cx) (k : Nat) (env : Env) (sc : Kinds) (t : Sem Value) (m : Loc) (σ : Store) (K : OutE → Prop) : Prop :=
  ∀ (A : Around) (s : Shared) (ρ : Nat → Addr) (Q E : Value → Shared → Prop), Ar X k A env s.heap → Rep X ρ σ s.heap → Frm X env sc m σ.length ρ s.heap →
    OkE X σ ρ s K Q → ErE X env.frame σ ρ s K E → wpAny (model X.prog X.w) A t Q E s
noncomputable def SS (X : Cx) (k : Nat) (env : Env) (sc : Kinds) (t : Sem Flow) (m : Loc) (σ : Store) (K : OutS → Prop) : Prop :=
  ∀ (A : Around) (s : Shared) (ρ : Nat → Addr) (Q : Flow → Shared → Prop) (E : Value → Shared → Prop), Ar X k A env s.heap → Rep X ρ σ s.heap → Frm X env sc m σ.length ρ s.heap →
    (∀ m' σ' ρ' h' tk, K (.next m' σ') → Rep X ρ' σ' h' → Go (Wr env) σ ρ s.heap σ' ρ' h' → Frm X env sc m' σ'.length ρ' h' → Q .next { s with heap := h', toks := tk }) →
    (∀ v σ' ρ' a h' tk, K (.ret v σ') → Rep X ρ' σ' h' → Go (Wr env) σ ρ s.heap σ' ρ' h' → (∃ m', Frm X env sc m' σ'.length ρ' h') → Has X σ'.length ρ' h' v a → Q (.ret a) { s with heap := h', toks := tk }) →
    (∀ c m' σ' ρ' e h' tk, K (.exn c m' σ') → Rep X ρ' σ' h' → Go (Wr env) σ ρ s.heap σ' ρ' h' → Frm X env sc m' σ'.length ρ' h' → Flies X c env.frame s.heap.objs.size e h' → E (.ref e) { s with heap := h', toks := tk }) →
    wpAny (model X.prog X.w) A t Q E s
noncomputable def thenE (K : OutE → Prop) (f : V → Store → Prop) : OutE → Prop
  | .val v σ => f v σ
  | .exn c σ => K (.exn c σ)
section
variable {X : Cx} {k : Nat} {env : Env} {sc : Kinds} {m : Loc} {σ : Store} {K : OutE → Prop}
theorem ErE.after {fr : Option Addr} {σ₁ : Store} {ρ ρ₁ : Nat → Addr} {s : Shared} {h₁ : Heap} {tk : Nat} {E : Value → Shared → Prop} (x : ErE X fr σ ρ s K E) (g : Go Nowhere σ ρ s.heap σ₁ ρ₁ h₁) : ErE X fr σ₁ ρ₁ { s with heap := h₁, toks := tk } K E :=
  fun c σ' ρ' e h' tk' hK R' g' fl => x c σ' ρ' e h' tk' hK R' (g.trans g') (fl.sz g.size)
theorem OkE.after {σ₁ : Store} {ρ ρ₁ : Nat → Addr} {s : Shared} {h₁ : Heap} {tk : Nat} {Q : Value → Shared → Prop} (x : OkE X σ ρ s K Q) (g : Go Nowhere σ ρ s.heap σ₁ ρ₁ h₁) : OkE X σ₁ ρ₁ { s with heap := h₁, toks := tk } K Q :=
  fun v σ' ρ' a h' tk' hK R' g' hv => x v σ' ρ' a h' tk' hK R' (g.trans g') hv
theorem ErE.none {fr : Option Addr} {ρ : Nat → Addr} {s : Shared} {E : Value → Shared → Prop} (x : ErE X fr σ ρ s K E) : ErE X none σ ρ s K E :=
  fun c σ' ρ' e h' tk' hK R' g' fl => x c σ' ρ' e h' tk' hK R' g' fl.any
theorem SE.andThen {t : Sem Value} {f : V → Store → Prop} {A : Around} {s : Shared} {ρ : Nat → Addr} {Q E : Value → Shared → Prop} (x : SE X k env sc t m σ (thenE K f))
    (ar : Ar X k A env s.heap) (R : Rep X ρ σ s.heap) (F : Frm X env sc m σ.length ρ s.heap) (er : ErE X env.frame σ ρ s K E)
    (h : ∀ v σ₁ ρ₁ a h₁ tk, f v σ₁ → Rep X ρ₁ σ₁ h₁ → Go Nowhere σ ρ s.heap σ₁ ρ₁ h₁ → Has X σ₁.length ρ₁ h₁ v a → Ar X k A env h₁ → Frm X env sc m σ₁.length ρ₁ h₁ → Q a { s with heap := h₁, toks := tk }) :
    wpAny (model X.prog X.w) A t Q E s :=
  x A s ρ Q E ar R F (fun v σ₁ ρ₁ a h₁ tk hf R₁ g hv => h v σ₁ ρ₁ a h₁ tk hf R₁ g hv (ar.go g) (F.go R g)) er
end
end Mine

set_option Elab.async false
set_option autoImplicit false
set_option linter.unusedVariables false
namespace Mine
open PySem PySem.Spec PySem.Calls PyProof.Rows
noncomputable abbrev Contract := List V → Store → (OutE → Prop) → Prop
noncomputable def kinB (c D : Str) : Bool := c == D || D == ("BidError" : Str) || D == ("ValueError" : Str)
noncomputable def itemsAt (σ : Store) (i : Nat) : Option (List V) := (σ[i]?).bind Cell.list?
noncomputable def dataOf (σ : Store) : Nat → V → Option PyData
  | _, .d x => some x
  | n + 1, .ref i => (itemsAt σ i).bind fun xs => (xs.mapM (dataOf σ n)).map .list
  | _, _ => none
noncomputable def truthW : V → Option Bool
  | .d (.bool b) => some b
  | _ => none
noncomputable def sliceV {α : Type} (xs : List α) (lo hi : Option Int) : List α := (xs.drop (lo.elim 0 (clipAt xs.length))).take (hi.elim xs.length (clipAt xs.length) - lo.elim 0 (clipAt xs.length))
noncomputable def srcNext (σ : Store) (src : V) (k : Nat) : Option (Option V) :=
  match src with
  | .ref l => (itemsAt σ l).map fun xs => xs[k]?
  | .d (.tuple xs) => some (xs[k]?.map V.d)
  | .rng lo hi => some (if lo + k < hi then some (.d (.int (lo + k))) else none)
  | _ => none
noncomputable def upd (m : Loc) (x : Str) (v : V) : Loc := fun y => if y = x then some v else m y
noncomputable def compLoc (names : List (Str × NameKind)) (m : Loc) : Loc := fun y => match names.lookup y with
  | some .free => m y
  | _ => none
noncomputable def kindsOf (names : List (Str × NameKind)) : Kinds := fun y => names.lookup y
noncomputable def noStar : Expr → Bool
  | .Starred _ _ => false
  | _ => true
noncomputable def noSet : Expr → Bool
  | .Set _ _ _ => false
  | _ => true
noncomputable def compOkB (sc : Kinds) (scope : Scope) (x : Str) : Bool :=
  scope.kind == .function && scope.names.lookup x == some .local &&
    scope.names.all (fun y => y.2 != .cell && (y.2 != .local || scope.names.lookup y.1 == some .local) && (y.2 != .free || sc y.1 == some .cell || sc y.1 == some .free)) &&
    (scope.names.lookup ("__debug__" : Str)).isNone && (scope.names.lookup ("__classdict__" : Str)).isNone
noncomputable def noSuper : Expr → Bool
  | .Call (.Name _ _) [] [] _ => false
  | _ => true
noncomputable def noExn (f : V → Store → Prop) : OutE → Prop
  | .val v σ => f v σ
  | .exn _ _ => False
noncomputable def liftS (K : OutS → Prop) (m : Loc) : OutE → Prop
  | .val _ _ => False
  | .exn c σ => K (.exn c m σ)
noncomputable def loopS (K : OutS → Prop) (J : Loc → Store → Prop) : OutS → Prop
  | .next m σ => J m σ
  | .ret v σ => K (.ret v σ)
  | .exn c m σ => K (.exn c m σ)
noncomputable def loopN (K : OutS → Prop) (J : Loc → Store → Prop) : OutS → Prop
  | .next m σ => J m σ
  | .ret v σ => K (.ret v σ)
  | .exn _ _ _ => False
noncomputable def noComp : Expr → Bool
  | .ListComp _ _ _ _ => false
  | .SetComp _ _ _ _ => false
  | .DictComp _ _ _ _ _ => false
  | _ => true
noncomputable def noSlice : Expr → Bool
  | .Slice _ _ _ _ => false
  | _ => true
noncomputable def bindable (sc : Kinds) (x : Str) : Prop := sc x = some .local ∨ sc x = some .cell
noncomputable def drop (m : Loc) (x : Str) : Loc := fun y => if y = x then none else m y
noncomputable def asK (x : Str) (K : OutS → Prop) : OutS → Prop
  | .next m σ => K (.next (drop m x) σ)
  | .ret v σ => K (.ret v σ)
  | .exn _ _ _ => False
noncomputable def tryK (K : OutS → Prop) (H : Str → Loc → Store → Prop) : OutS → Prop
  | .next m σ => K (.next m σ)
  | .ret v σ => K (.ret v σ)
  | .exn c m σ => H c m σ
end Mine

set_option Elab.async false
set_option autoImplicit false
set_option linter.unusedVariables false
namespace Mine
open PySem PySem.Spec PySem.Calls PyProof.Rows
section
variable {X : Cx} {n : Nat} {ρ : Nat → Addr} {h : Heap} {v : Value}
theorem Has.int_inv {i : Int} (x : Has X n ρ h (.d (.int i)) v) : ∃ t, v = .int i t := by
  cases x with | d r => cases r; exact ⟨_, rfl⟩
theorem Has.str_inv {i : Str} (x : Has X n ρ h (.d (.str i)) v) : ∃ t, v = .str i t := by
  cases x with | d r => cases r; exact ⟨_, rfl⟩
theorem Has.bool_inv {i : Bool} (x : Has X n ρ h (.d (.bool i)) v) : v = .bool i := by
  cases x with | d r => cases r; rfl
theorem Has.ref_inv {i : Nat} (x : Has X n ρ h (.ref i) v) : i < n ∧ v = .ref (ρ i) := by
  cases x with | ref hi => exact ⟨hi, rfl⟩
theorem Has.d_rdc {x : PyData} (y : Has X n ρ h (.d x) v) : RdC X.bad h v x := by
  cases y with | d r => exact r
theorem Has.d_inv {x : PyData} (y : Has X n ρ h (.d x) v) : Reads h v x [] := y.d_rdc.reads
theorem Has.glob_inv {x : Str} (y : Has X n ρ h (.glob x) v) : X.val x = some v := by
  cases y with | glob r => exact r
theorem Has.ofInt (i : Int) (t : Tok) : Has X n ρ h (.d (.int i)) (.int i t) := .d (.int i t)
theorem Has.ofBool (b : Bool) : Has X n ρ h (.d (.bool b)) (.bool b) := .d (.bool b)
theorem Has.ofStr (x : Str) (t : Tok) : Has X n ρ h (.d (.str x)) (.str x t) := .d (.str x t)
theorem Has.ofNone : Has X n ρ h (.d .none) .none := .d .none
end
section
variable {X : Cx} {σ : Store} {ρ : Nat → Addr} {h : Heap}
theorem Rep.newCell (R : Rep X ρ σ h) {cc : Cell} {oo : Obj} {items : List Value} (hsh : cc.Shape oo items) (hv : HasAll X σ.length ρ h cc.items items) :
    let ρ' := fun i => if i = σ.length then h.objs.size else ρ i
    Rep X ρ' (σ ++ [cc]) (h.push oo) ∧ Go Nowhere σ ρ h (σ ++ [cc]) ρ' (h.push oo) := by
  intro ρ'
  have hρ : ∀ i, i < σ.length → ρ' i = ρ i := fun i hi => if_neg (Nat.ne_of_lt hi)
  have hk : ∀ b o, h.get? b = some o → (h.push oo).get? b = some o := fun b o e => Heap.get?_push_of_some _ e
  have g : Go Nowhere σ ρ h (σ ++ [cc]) ρ' (h.push oo) :=
    ⟨by rw [Heap.size_push]; exact Nat.le_succ _, fun b o e _ _ => ⟨o.slots, hk b o e, fun _ => rfl⟩, fun b o es n e d => ⟨o, es, n, hk b o e, d⟩, by simp, hρ, fun i h1 h2 => by
      simp only [List.length_append, List.length_cons, List.length_nil] at h2
      have : i = σ.length := by omega
      subst this
      show h.objs.size ≤ (if σ.length = σ.length then h.objs.size else _)
      rw [if_pos rfl]; exact Nat.le_refl _⟩
  refine ⟨⟨fun b o e => hk b o (R.base b o e), ?_, ?_, ?_, R.badKeep fun b o e _ => hk b o e⟩, g⟩
  · intro i c hc
    by_cases hi : i < σ.length
    · rw [List.getElem?_append_left hi] at hc
      obtain ⟨oc, its, hp, sh, ha⟩ := R.cell i c hc
      rw [hρ i hi]
      exact ⟨oc, its, hk _ _ hp, sh, ha.go R g .nowhere⟩
    · have hi' : i = σ.length := by
        have := (List.getElem?_eq_some_iff.mp hc).1
        simp at this; omega
      subst hi'
      simp at hc; subst hc
      show CellAt X _ ρ' _ (if σ.length = σ.length then h.objs.size else _) _
      rw [if_pos rfl]
      exact ⟨oo, items, Heap.get?_push_size _ (by obtain ⟨c1, c2, c3, c4⟩ := oo; rcases hsh.is with ⟨_, _, _, q⟩ | ⟨_, _, _, q⟩ <;> (cases q; rfl)), hsh, hv.go R g .nowhere⟩
  · intro i c hc ho
    by_cases hi : i < σ.length
    · rw [List.getElem?_append_left hi] at hc; rw [hρ i hi]; exact R.own i c hc ho
    · have hi' : i = σ.length := by
        have := (List.getElem?_eq_some_iff.mp hc).1
        simp at this; omega
      subst hi'
      show X.B.get? (if σ.length = σ.length then h.objs.size else _) = none
      rw [if_pos rfl]
      cases e : X.B.get? h.objs.size with
      | none => rfl
      | some o => exact absurd (Heap.lt_size (R.base _ _ e)) (Nat.lt_irrefl _)
  · intro i j hi hj e
    simp only [List.length_append, List.length_cons, List.length_nil] at hi hj
    have lt : ∀ i, i < σ.length → ρ i < h.objs.size := fun i hi => by
      obtain ⟨_, _, hp, _, _⟩ := R.cell i _ (List.getElem?_eq_getElem hi)
      exact Heap.lt_size hp
    by_cases h1 : i = σ.length <;> by_cases h2 : j = σ.length
    · omega
    · have e' : h.objs.size = ρ j := by simpa [ρ', h1, h2] using e
      have hh := lt j (by omega)
      rw [← e'] at hh; exact absurd hh (Nat.lt_irrefl _)
    · have e' : ρ i = h.objs.size := by simpa [ρ', h1, h2] using e
      have hh := lt i (by omega)
      rw [e'] at hh; exact absurd hh (Nat.lt_irrefl _)
    · exact R.inj i j (by omega) (by omega) (by simpa [ρ', h1, h2] using e)
theorem Rep.newList (R : Rep X ρ σ h) {vs : List V} {items : List Value} {n : Nat} (hv : HasAll X σ.length ρ h vs items) :
    let ρ' := fun i => if i = σ.length then h.objs.size else ρ i
    Rep X ρ' (σ ++ [.lst vs]) (h.push { cls := .type "list", data := .seq items.toArray n }) ∧ Go Nowhere σ ρ h (σ ++ [.lst vs]) ρ' (h.push { cls := .type "list", data := .seq items.toArray n }) :=
  R.newCell (cc := .lst vs) ⟨n, rfl⟩ hv
theorem Rep.list {i : Nat} {xs : List V} (R : Rep X ρ σ h) (e : itemsAt σ i = some xs) : i < σ.length ∧ ∃ items : List Value, (∃ n, h.get? (ρ i) = some { cls := .type "list", data := .seq items.toArray n }) ∧ HasAll X σ.length ρ h xs items := by
  unfold itemsAt at e
  obtain ⟨c, hc, e⟩ := Option.bind_eq_some_iff.mp e
  obtain ⟨oc, its, hp, sh, ha⟩ := R.cell i c hc
  cases c with
  | dct => cases e
  | lst ys => cases e; obtain ⟨n, rfl⟩ := sh; exact ⟨(List.getElem?_eq_some_iff.mp hc).1, its, ⟨n, hp⟩, ha⟩
  | rol ys => cases e; obtain ⟨n, rfl⟩ := sh; exact ⟨(List.getElem?_eq_some_iff.mp hc).1, its, ⟨n, hp⟩, ha⟩
end
section
variable {X : Cx} {σ : Store} {ρ : Nat → Addr} {h h' : Heap}
theorem Rep.setCell (R : Rep X ρ σ h) {l : Nat} {xs ys : List V} {items : List Value} {n : Nat} (hl : σ[l]? = some (.lst xs)) (hsb : Heap.SameBut (ρ l) h h') (hp : h'.get? (ρ l) = some { cls := .type "list", data := .seq items.toArray n })
    (hv : HasAll X σ.length ρ h ys items) : Rep X ρ (σ.set l (.lst ys)) h' ∧ Go Nowhere σ ρ h (σ.set l (.lst ys)) ρ h' := by
  have hlt := (List.getElem?_eq_some_iff.mp hl).1
  have hnS : ∀ b o, h.get? b = some o → Still o → h'.get? b = some o := fun b o e hs => by
    refine (hsb.2 b fun q => ?_).trans e
    subst q
    obtain ⟨_, its, hp0, ⟨k, rfl⟩, _⟩ := R.cell l _ hl
    rw [hp0] at e; cases e
    exact hs.cls rfl
  have g : Go Nowhere σ ρ h (σ.set l (.lst ys)) ρ h' := ⟨Nat.le_of_eq hsb.1.symm, fun b o e _ hb => ⟨o.slots, (hsb.2 b (hb l hlt)).trans e, fun _ => rfl⟩, fun b o es n e d => by
      by_cases hb : b = ρ l
      · subst hb
        obtain ⟨_, its, hp0, ⟨k, rfl⟩, _⟩ := R.cell l _ hl
        rw [hp0] at e; cases e; cases d
      · exact ⟨o, es, n, (hsb.2 b hb).trans e, d⟩, by simp, fun _ _ => rfl, fun i h1 h2 => by simp at h2; omega⟩
  refine ⟨⟨fun b o e => ?_, fun i c hc => ?_, fun i c hc ho => ?_, fun i j hi hj q => R.inj i j (by simpa using hi) (by simpa using hj) q, R.badKeep hnS⟩, g⟩
  · refine (hsb.2 b fun q => ?_).trans (R.base b o e)
    subst q
    rw [R.own l _ hl rfl] at e; cases e
  · rw [List.length_set]
    by_cases hi : l = i
    · subst hi
      rw [List.getElem?_set_self hlt] at hc; cases hc
      exact ⟨_, items, hp, ⟨n, rfl⟩, hv.mono (Nat.le_refl _) (fun _ _ => rfl) hnS⟩
    · rw [List.getElem?_set_ne hi] at hc
      obtain ⟨oc, its, hp0, sh, ha⟩ := R.cell i c hc
      have hne : ρ i ≠ ρ l := fun q => hi (R.inj i l (List.getElem?_eq_some_iff.mp hc).1 hlt q).symm
      exact ⟨oc, its, (hsb.2 _ hne).trans hp0, sh, ha.mono (Nat.le_refl _) (fun _ _ => rfl) hnS⟩
  · by_cases hi : l = i
    · subst hi; exact R.own l _ hl rfl
    · rw [List.getElem?_set_ne hi] at hc; exact R.own i c hc ho
theorem HasAll.set {n : Nat} {vs : List V} {as : List Value} (x : HasAll X n ρ h vs as) {v : V} {a : Value} (hv : Has X n ρ h v a) (k : Nat) : HasAll X n ρ h (vs.set k v) (as.set k a) := by
  induction x generalizing k with
  | nil => exact .nil
  | cons h1 h2 ih =>
    cases k with
    | zero => exact .cons hv h2
    | succ k => exact .cons h1 (ih k)
theorem HasAll.drop {n : Nat} {vs : List V} {as : List Value} (x : HasAll X n ρ h vs as) (k : Nat) : HasAll X n ρ h (vs.drop k) (as.drop k) := by
  induction x generalizing k with
  | nil => simp; exact .nil
  | cons h1 h2 ih =>
    cases k with
    | zero => exact .cons h1 h2
    | succ k => simpa using ih k
theorem HasAll.take {n : Nat} {vs : List V} {as : List Value} (x : HasAll X n ρ h vs as) (k : Nat) : HasAll X n ρ h (vs.take k) (as.take k) := by
  induction x generalizing k with
  | nil => simp; exact .nil
  | cons h1 h2 ih =>
    cases k with
    | zero => exact .nil
    | succ k => exact .cons h1 (ih k)
theorem HasAll.slice {n : Nat} {vs : List V} {as : List Value} (x : HasAll X n ρ h vs as) (lo hi : Option Int) : HasAll X n ρ h (sliceV vs lo hi) (sliceV as lo hi) := by
  unfold sliceV
  rw [x.length]
  exact (x.drop _).take _
end
section
variable {X : Cx} {k : Nat} {A : Around} {env : Env} {σ : Store} {ρ : Nat → Addr} {s : Shared} {K : OutE → Prop} {Q E : Value → Shared → Prop}
theorem OkE.same (ok : OkE X σ ρ s K Q) (R : Rep X ρ σ s.heap) {v : V} {a : Value} (hK : K (.val v σ)) (hv : Has X σ.length ρ s.heap v a) (tk : Nat) : Q a { s with toks := tk } :=
  ok v σ ρ a s.heap tk hK R (.refl ..) hv
theorem truth_sound {a : V} {va : Value} {b : Bool} {Q : Bool → Shared → Prop} (hb : truthW a = some b) (ha : Has X σ.length ρ s.heap a va) (h : Q b s) : wpAny (model X.prog X.w) A (truthy va) Q E s := by
  unfold truthW at hb
  split at hb
  · cases hb; cases ha.bool_inv; exact wpAny_truthy_bool h
  · cases hb
mutual
theorem readsAll_of {X : Cx} {σ : Store} {ρ : Nat → Addr} {h : Heap} (R : Rep X ρ σ h) (n : Nat) : ∀ (vs : List V) (as : List Value) (xs : List PyData), HasAll X σ.length ρ h vs as → vs.mapM (dataOf σ n) = some xs → ∃ bs, ReadsAll h as xs bs := by
  intro vs as xs hv
  induction hv generalizing xs with
  | nil => intro e; simp at e; subst e; exact ⟨_, .nil⟩
  | cons h1 h2 ih =>
    intro e
    simp only [List.mapM_cons, Option.bind_eq_bind, Option.bind_eq_some_iff] at e
    obtain ⟨y, e1, ys, e2, e3⟩ := e
    cases e3
    obtain ⟨bs1, r1⟩ := reads_of R n _ _ _ h1 e1
    obtain ⟨bs2, r2⟩ := ih _ e2
    exact ⟨_, .cons r1 r2⟩
termination_by (n, 1)
theorem reads_of {X : Cx} {σ : Store} {ρ : Nat → Addr} {h : Heap} (R : Rep X ρ σ h) (n : Nat) (v : V) (a : Value) (x : PyData) (hv : Has X σ.length ρ h v a) (e : dataOf σ n v = some x) : ∃ bs, Reads h a x bs := by
  unfold dataOf at e
  split at e
  · cases e; exact ⟨_, hv.d_inv⟩
  · rename_i n i
    obtain ⟨xs, e1, e2⟩ := Option.bind_eq_some_iff.mp e
    obtain ⟨ds, e3, e4⟩ := Option.map_eq_some_iff.mp e2
    subst e4
    obtain ⟨_, rfl⟩ := hv.ref_inv
    obtain ⟨_, its, ⟨k, ho⟩, ha⟩ := R.list e1
    obtain ⟨bs, r⟩ := readsAll_of R n xs its ds ha e3
    exact ⟨_, .list ho rfl rfl (by simpa using r)⟩
  · cases e
termination_by (n, 0)
end
theorem setItem_plain {prog : Program} {w : World} {E : Value → Shared → Prop} {l : Addr} {items : Array Value} {n : Nat} {j : Int} {t : Tok} {v : Value} {Q : Unit → Shared → Prop} (hl : s.heap.get? l = some { cls := .type "list", data := .seq items n })
    (h0 : 0 ≤ j) (hfit : j < 2 ^ 63) (hn : j < items.size)
    (hQ : ∀ h' n', h'.get? l = some { cls := .type "list", data := .seq (items.setIfInBounds j.toNat v) n' } → Heap.SameBut l s.heap h' → Q () { s with heap := h' }) :
    wpAny (model prog w) A (setItem (.ref l) (.int j t) v) Q E s := by
  have hL : s.heap.IsList l items := ⟨_, hl, rfl, n, rfl⟩
  unfold setItem
  try with_reducible refine wpAny_holding ?_
  first | refine wpAny_bind (wpAny_pure ?_) | skip
  refine wpAny_bind (wpAny_sequenceKey hL.typeIs (by decide) ?_)
  refine wpAny_bind (wpAny_callSpecial?_slot (name := Str.ofString "__setitem__") hL.typeIs slot_list_setitem
    (wpAny_call_entry slot_list_setitem hL.typeIs entry_list_setitem ?_ (args_list_setitem _ _ _)))
  show wpAny _ _ (Builtin.List.listSubscript? (.int j t) >>= _) _ _ s
  refine wpAny_bind (wpAny_listSubscript_int (fitsIndex_of h0 hfit) ?_)
  clear hfit
  obtain ⟨i, rfl⟩ := Int.eq_ofNat_of_zero_le h0
  have hj : i < items.size := by omega
  have hx' : items[i]? = some items[i] := Array.getElem?_eq_getElem hj
  show wpAny _ _ ((seqItemAt l i >>= fun r => pure (r.map (i, ·))) >>= _) _ _ s
  refine wpAny_bind (wpAny_bind (wpAny_seqItemAt hl rfl (wpAny_pure ?_)))
  rw [hx']
  show wpAny _ _ (setSeqItemAt l i v >>= _) _ _ s
  have hfin : (s.heap.update l (Obj.mapSeq (·.setIfInBounds i v))).get? l = some { cls := .type "list", data := .seq (items.setIfInBounds i v) _ } := Heap.get?_update_self _ hl rfl
  refine wpAny_bind (wpAny_setSeqItemAt hl rfl ?_)
  first
    | exact wpAny_bind (wpAny_pure (wpAny_pure ⟨.none, rfl, wpAny_pure (hQ _ _ hfin (Heap.SameBut.update ..))⟩))
    | exact wpAny_pure ⟨.none, rfl, wpAny_pure (hQ _ _ hfin (Heap.SameBut.update ..))⟩
theorem subscripted_plain {slice : Expr} (hs : ∀ a b c p, slice ≠ .Slice a b c p) (o i : Value) : subscripted slice false o i = operate [o, i] (getItem o i) := by
  unfold subscripted
  split
  · exact absurd rfl (hs _ _ _ _)
  · rename_i h; cases h
  · rfl
noncomputable def binW (X : Cx) (op : Operator) (a b : V) (σ : Store) (K : OutE → Prop) : Prop := ∀ (A : Around) (s : Shared) (ρ : Nat → Addr) (va vb : Value) (Q E : Value → Shared → Prop), Rep X ρ σ s.heap → Has X σ.length ρ s.heap a va → Has X σ.length ρ s.heap b vb → OkE X σ ρ s K Q → wpAny (model X.prog X.w) A (binaryOp op va vb) Q E s
noncomputable def unW (X : Cx) (op : UnaryOp) (a : V) (σ : Store) (K : OutE → Prop) : Prop := ∀ (A : Around) (s : Shared) (ρ : Nat → Addr) (va : Value) (Q E : Value → Shared → Prop), Rep X ρ σ s.heap → Has X σ.length ρ s.heap a va → OkE X σ ρ s K Q → wpAny (model X.prog X.w) A (unaryOp op va) Q E s
noncomputable def cmpW (X : Cx) (op : CmpOp) (a b : V) (σ : Store) (f : Bool → Prop) : Prop := ∀ (A : Around) (s : Shared) (ρ : Nat → Addr) (va vb : Value) (Q E : Value → Shared → Prop), A.units + 200 < cLine → Rep X ρ σ s.heap → Has X σ.length ρ s.heap a va → Has X σ.length ρ s.heap b vb → (∀ r, f r → Q (.bool r) s) → wpAny (model X.prog X.w) A (compareOp op va vb) Q E s
noncomputable def itemW (X : Cx) (a i : V) (σ : Store) (K : OutE → Prop) : Prop := ∀ (A : Around) (s : Shared) (ρ : Nat → Addr) (value slice : Expr) (va vi : Value) (Q E : Value → Shared → Prop), (∀ a b c p, slice ≠ .Slice a b c p) → Rep X ρ σ s.heap → Has X σ.length ρ s.heap a va → Has X σ.length ρ s.heap i vi → OkE X σ ρ s K Q → wpAny (model X.prog X.w) A (subscriptTail value slice va vi) Q E s
noncomputable def sliceW (X : Cx) (a : V) (lo hi : Option Int) (σ : Store) (K : OutE → Prop) : Prop := ∀ (A : Around) (s : Shared) (ρ : Nat → Addr) (value : Expr) (lower upper : Option Expr) (p : Pos) (va vl vu : Value) (Q E : Value → Shared → Prop), Rep X ρ σ s.heap → Has X σ.length ρ s.heap a va → IsPart vl lo → IsPart vu hi → OkE X σ ρ s K Q →
  wpAny (model X.prog X.w) A (subscriptTail value (.Slice lower upper none p) va (.ref s.heap.objs.size)) Q E { s with heap := s.heap.push { cls := .type "slice", data := .fields #[vl, vu, .none] } }
noncomputable def setW (X : Cx) (a i v : V) (σ : Store) (f : Store → Prop) : Prop := ∀ (A : Around) (s : Shared) (ρ : Nat → Addr) (va vi vv : Value) (Q : Unit → Shared → Prop) (E : Value → Shared → Prop), Rep X ρ σ s.heap → Has X σ.length ρ s.heap a va → Has X σ.length ρ s.heap i vi → Has X σ.length ρ s.heap v vv →
  (∀ σ' h', f σ' → Rep X ρ σ' h' → Go Nowhere σ ρ s.heap σ' ρ h' → Q () { s with heap := h' }) → wpAny (model X.prog X.w) A (setItem va vi vv) Q E s
theorem bin_sound {op : Operator} {a b : V} {va vb : Value} (hb : binW X op a b σ K) (R : Rep X ρ σ s.heap) (ha : Has X σ.length ρ s.heap a va) (hb' : Has X σ.length ρ s.heap b vb) (ok : OkE X σ ρ s K Q) : wpAny (model X.prog X.w) A (binaryOp op va vb) Q E s := hb A s ρ va vb Q E R ha hb' ok
theorem un_sound {op : UnaryOp} {a : V} {va : Value} (hb : unW X op a σ K) (R : Rep X ρ σ s.heap) (ha : Has X σ.length ρ s.heap a va) (ok : OkE X σ ρ s K Q) : wpAny (model X.prog X.w) A (unaryOp op va) Q E s := hb A s ρ va Q E R ha ok
theorem cmp_sound {op : CmpOp} {a b : V} {va vb : Value} {f : Bool → Prop} (hb : cmpW X op a b σ f) (ar : Ar X k A env s.heap) (R : Rep X ρ σ s.heap) (ha : Has X σ.length ρ s.heap a va) (hb' : Has X σ.length ρ s.heap b vb) (h : ∀ r, f r → Q (.bool r) s) : wpAny (model X.prog X.w) A (compareOp op va vb) Q E s :=
  hb A s ρ va vb Q E (by have := ar.units; omega) R ha hb' h
theorem item_sound {value slice : Expr} {a i : V} {va vi : Value} (hs : ∀ a b c p, slice ≠ .Slice a b c p) (hb : itemW X a i σ K) (R : Rep X ρ σ s.heap) (ha : Has X σ.length ρ s.heap a va) (hi : Has X σ.length ρ s.heap i vi) (ok : OkE X σ ρ s K Q) : wpAny (model X.prog X.w) A (subscriptTail value slice va vi) Q E s := hb A s ρ value slice va vi Q E hs R ha hi ok
theorem slice_sound {value : Expr} {lower upper : Option Expr} {p : Pos} {a : V} {va vl vu : Value} {lo hi : Option Int} (hb : sliceW X a lo hi σ K) (R : Rep X ρ σ s.heap) (ha : Has X σ.length ρ s.heap a va) (pl : IsPart vl lo) (pu : IsPart vu hi)
    (ok : OkE X σ ρ s K Q) : wpAny (model X.prog X.w) A (subscriptTail value (.Slice lower upper none p) va (.ref s.heap.objs.size)) Q E { s with heap := s.heap.push { cls := .type "slice", data := .fields #[vl, vu, .none] } } := hb A s ρ value lower upper p va vl vu Q E R ha pl pu ok
theorem set_sound {a i v : V} {va vi vv : Value} {f : Store → Prop} {Q : Unit → Shared → Prop} (hb : setW X a i v σ f) (R : Rep X ρ σ s.heap) (ha : Has X σ.length ρ s.heap a va) (hi : Has X σ.length ρ s.heap i vi) (hv : Has X σ.length ρ s.heap v vv)
    (h : ∀ σ' h', f σ' → Rep X ρ σ' h' → Go Nowhere σ ρ s.heap σ' ρ h' → Q () { s with heap := h' }) : wpAny (model X.prog X.w) A (setItem va vi vv) Q E s := hb A s ρ va vi vv Q E R ha hi hv h
theorem newRef {c : Cell} {ρ : Nat → Addr} {h : Heap} {a : Addr} : Has X (σ ++ [c]).length (fun i => if i = σ.length then a else ρ i) h (.ref σ.length) (.ref a) := by
  have := Has.ref (X := X) (n := (σ ++ [c]).length) (ρ := fun i => if i = σ.length then a else ρ i) (h := h) (i := σ.length) (by simp)
  simpa using this
theorem Rep.grow1 {h : Heap} (R : Rep X ρ σ h) (o : Obj) : Rep X ρ σ (h.push o) ∧ Go Nowhere σ ρ h σ ρ (h.push o) := by
  have hk : ∀ b o', h.get? b = some o' → (h.push o).get? b = some o' := fun b o' e => Heap.get?_push_of_some _ e
  refine ⟨⟨fun b o' e => hk _ _ (R.base b o' e), fun i c hc => ?_, R.own, R.inj, R.badKeep fun b o e _ => hk b o e⟩, ⟨by rw [Heap.size_push]; exact Nat.le_succ _, fun b o' e _ _ => ⟨o'.slots, hk b o' e, fun _ => rfl⟩, fun b o' es n e d => ⟨o', es, n, hk _ _ e, d⟩, Nat.le_refl _, fun _ _ => rfl, fun i h1 h2 => absurd h2 (Nat.not_lt.mpr h1)⟩⟩
  obtain ⟨oc, its, hp, sh, ha⟩ := R.cell i c hc
  exact ⟨oc, its, hk _ _ hp, sh, ha.mono (Nat.le_refl _) (fun _ _ => rfl) fun b o' e _ => hk b o' e⟩
theorem zqc {i j : Int} (h : K (.val (.d (.int (i + j))) σ)) : binW X .Add (.d (.int i)) (.d (.int j)) σ K := by
  intro A s ρ va vb Q E R ha hb' ok
  obtain ⟨t, rfl⟩ := ha.int_inv; obtain ⟨u, rfl⟩ := hb'.int_inv
  exact PyProof.Rows.add_int (ok.same R h (.ofInt ..) _)
theorem zqau {i j : Int} (h : K (.val (.d (.int (i - j))) σ)) : binW X .Sub (.d (.int i)) (.d (.int j)) σ K := by
  intro A s ρ va vb Q E R ha hb' ok
  obtain ⟨t, rfl⟩ := ha.int_inv; obtain ⟨u, rfl⟩ := hb'.int_inv
  exact PyProof.Rows.sub_int (ok.same R h (.ofInt ..) _)
theorem zqch {i j : Int} (h1 : IntMulOk i j) (h : K (.val (.d (.int (i * j))) σ)) : binW X .Mult (.d (.int i)) (.d (.int j)) σ K := by
  intro A s ρ va vb Q E R ha hb' ok
  obtain ⟨t, rfl⟩ := ha.int_inv; obtain ⟨u, rfl⟩ := hb'.int_inv
  exact PyProof.Rows.mul_int (ok.same R h (.ofInt ..) _) h1
theorem zqaf {i j : Int} (h1 : 0 < j ∧ j < 1073741824) (h : K (.val (.d (.int (i / j))) σ)) : binW X .FloorDiv (.d (.int i)) (.d (.int j)) σ K := by
  intro A s ρ va vb Q E R ha hb' ok
  obtain ⟨t, rfl⟩ := ha.int_inv; obtain ⟨u, rfl⟩ := hb'.int_inv
  exact PyProof.Rows.floordiv_int (by have := h1.1; omega) (ok.same R (by rw [Int.fdiv_eq_ediv_of_nonneg _ (by omega)]; exact h) (.ofInt ..) _) (.inl (PyProof.noPylong_small (by omega)))
theorem zqj {i j : Int} (h1 : 0 < j) (h : K (.val (.d (.int (i % j))) σ)) : binW X .Mod (.d (.int i)) (.d (.int j)) σ K := by
  intro A s ρ va vb Q E R ha hb' ok
  obtain ⟨t, rfl⟩ := ha.int_inv; obtain ⟨u, rfl⟩ := hb'.int_inv
  exact PyProof.Rows.mod_int' (by omega) (ok.same R (by rw [Int.fmod_eq_emod_of_nonneg _ (by omega)]; exact h) (.ofInt ..) _)
theorem zqcc {x y : Str} (h1 : Nat.ble (x.length + y.length) 100000 = true) (h : K (.val (.d (.str (x ++ y))) σ)) : binW X .Add (.d (.str x)) (.d (.str y)) σ K := by
  intro A s ρ va vb Q E R ha hb' ok
  obtain ⟨t, rfl⟩ := ha.str_inv; obtain ⟨u, rfl⟩ := hb'.str_inv
  exact PyProof.Rows.add_str (fun t' tk => ok.same R h (.ofStr ..) _) (by have := Nat.le_of_ble_eq_true h1; rw [sizeLine_eq]; omega)
theorem zqi {i j : Nat} {xs ys : List V} (h1 : itemsAt σ i = some xs) (h2 : itemsAt σ j = some ys) (h3 : xs.length + ys.length ≤ 1000000) (h4 : K (.val (.ref σ.length) (σ ++ [.lst (xs ++ ys)]))) : binW X .Add (.ref i) (.ref j) σ K := by
  intro A s ρ va vb Q E R ha hb' ok
  obtain ⟨hi, rfl⟩ := ha.ref_inv; obtain ⟨hj, rfl⟩ := hb'.ref_inv
  obtain ⟨_, its1, ⟨n1, e1⟩, a1⟩ := R.list h1
  obtain ⟨_, its2, ⟨n2, e2⟩, a2⟩ := R.list h2
  have := R.newList (n := 0) (a1.append a2)
  have hz : its1.length + its2.length ≤ sizeLine := by rw [← a1.length, ← a2.length, sizeLine_eq]; omega
  refine PySem.P.add_list e1 e2 ?_ (by simpa using hz)
  have hh := ok _ _ _ (.ref s.heap.objs.size) _ s.toks h4 this.1 this.2 newRef
  simpa using hh
theorem zqbk {i : Int} (h : K (.val (.d (.int (-i))) σ)) : unW X .USub (.d (.int i)) σ K := by
  intro A s ρ va Q E R ha ok
  obtain ⟨t, rfl⟩ := ha.int_inv
  exact PyProof.Rows.neg_int (ok.same R h (.ofInt ..) _)
theorem zqbn {b : Bool} (h : K (.val (.d (.bool (!b))) σ)) : unW X .Not (.d (.bool b)) σ K := by
  intro A s ρ va Q E R ha ok
  cases ha.bool_inv
  exact not_of (wpAny_truthy_bool (ok.same R h (.ofBool _) s.toks))
theorem zqbv {i j : Int} {g : Bool → Prop} (h : g (decide (i < j))) : cmpW X .Lt (.d (.int i)) (.d (.int j)) σ g := by
  intro A s ρ va vb Q E hu R ha hb' hq
  obtain ⟨t, rfl⟩ := ha.int_inv; obtain ⟨u, rfl⟩ := hb'.int_inv
  exact PyProof.Rows.lt_int (hq _ h)
theorem zqe {i j : Int} {g : Bool → Prop} (h : g (decide (i ≤ j))) : cmpW X .LtE (.d (.int i)) (.d (.int j)) σ g := by
  intro A s ρ va vb Q E hu R ha hb' hq
  obtain ⟨t, rfl⟩ := ha.int_inv; obtain ⟨u, rfl⟩ := hb'.int_inv
  exact PyProof.Rows.le_int (hq _ h)
theorem zqbo {i j : Int} {g : Bool → Prop} (h : g (decide (j < i))) : cmpW X .Gt (.d (.int i)) (.d (.int j)) σ g := by
  intro A s ρ va vb Q E hu R ha hb' hq
  obtain ⟨t, rfl⟩ := ha.int_inv; obtain ⟨u, rfl⟩ := hb'.int_inv
  exact PyProof.Rows.gt_int (hq _ h)
theorem zqk {a b : V} {x y : PyData} {g : Bool → Prop} (h1 : dataOf σ 3 a = some x) (h2 : dataOf σ 3 b = some y) (h3 : SeqAt.shaped x = true) (h4 : SeqAt.shaped y = true) (h : g (PyData.eqv x y)) : cmpW X .Eq a b σ g := by
  intro A s ρ va vb Q E hu R ha hb' hq
  obtain ⟨as, ra⟩ := reads_of R _ _ _ _ ha h1
  obtain ⟨bs, rb⟩ := reads_of R _ _ _ _ hb' h2
  exact eq_dataH ra rb h3 h4 (by omega) (hq _ h)
theorem zqp {a b : V} {x y : PyData} {g : Bool → Prop} (h1 : dataOf σ 3 a = some x) (h2 : dataOf σ 3 b = some y) (h3 : SeqAt.shaped x = true) (h4 : SeqAt.shaped y = true) (h : g (!PyData.eqv x y)) : cmpW X .NotEq a b σ g := by
  intro A s ρ va vb Q E hu R ha hb' hq
  obtain ⟨as, ra⟩ := reads_of R _ _ _ _ ha h1
  obtain ⟨bs, rb⟩ := reads_of R _ _ _ _ hb' h2
  exact ne_dataH ra rb h3 h4 (by omega) (hq _ h)
theorem zqa {l : Nat} {k : Int} {xs : List V} {v : V} (h1 : itemsAt σ l = some xs) (h2 : 0 ≤ k ∧ k < 2 ^ 63) (h3 : xs[k.toNat]? = some v) (h4 : K (.val v σ)) : itemW X (.ref l) (.d (.int k)) σ K := by
  intro A s ρ value slice va vi Q E hs R ha hi ok
  obtain ⟨t, rfl⟩ := hi.int_inv
  obtain ⟨_, rfl⟩ := ha.ref_inv
  obtain ⟨_, its, ⟨n, e⟩, hall⟩ := R.list h1
  obtain ⟨w, hw, hv⟩ := hall.get h3
  have hL : s.heap.IsList (ρ _) its.toArray := ⟨_, e, rfl, n, rfl⟩
  exact tail_any hL.typeIs slot_list_getitem.lookup (wpAny_getItem_list hL h2.1 h2.2 (by simpa using hw) (ok.same R h4 hv s.toks)) (subscripted_plain hs _ _)
theorem zqcn {k : Int} {xs : List PyData} {x : PyData} (h2 : 0 ≤ k ∧ k < 2 ^ 63) (h3 : xs[k.toNat]? = some x) (h4 : K (.val (.d x) σ)) : itemW X (.d (.tuple xs)) (.d (.int k)) σ K := by
  intro A s ρ value slice va vi Q E hs R ha hi ok
  obtain ⟨t, rfl⟩ := hi.int_inv
  have r := ha.d_rdc
  cases r with
  | @tuple a o vs n xs e1 e2 e3 eb e4 =>
    obtain ⟨w, hw, hr⟩ := e4.get h3
    have hT : IsTup s.heap _ _ := ⟨_, e1, e2, _, e3⟩
    have hj : seqIndex? k vs.size = some k.toNat := by
      unfold seqIndex?
      have hlt := (List.getElem?_eq_some_iff.mp hw).1
      simp only [Array.length_toList] at hlt
      have : ¬ k < 0 := by omega
      simp only [this, if_false]
      rw [if_pos]
      simp only [Bool.and_eq_true, decide_eq_true_eq]
      omega
    exact tail_any hT.typeIs slot_tuple_getitem.lookup (PyProof.Rows.getItem_tuple hT (by omega) h2.2 hj (by simpa using hw) (ok.same R h4 (.d hr) s.toks)) (subscripted_plain hs _ _)
theorem zqd {l : Nat} {lo hi : Option Int} {xs : List V} (h1 : itemsAt σ l = some xs) (h2 : xs.length ≤ 1000000) (h3 : K (.val (.ref σ.length) (σ ++ [.lst (sliceV xs lo hi)]))) : sliceW X (.ref l) lo hi σ K := by
  intro A s ρ value lower upper p va vl vu Q E R ha pl pu ok
  obtain ⟨_, rfl⟩ := ha.ref_inv
  obtain ⟨_, its, ⟨n, e⟩, hall⟩ := R.list h1
  have hL : s.heap.IsList (ρ _) its.toArray := ⟨_, e, rfl, n, rfl⟩
  refine tail_any (s := { s with heap := s.heap.push { cls := .type "slice", data := .fields #[vl, vu, .none] } }) (hL.push _).typeIs slot_list_getitem.lookup ?_ rfl
  refine wpAny_getItem_list_slice (hL.push _) (Heap.IsSliceOf.new ..) pl pu .none (by simp) ?_ (by rw [List.size_toArray, sizeLine_eq, ← hall.length]; omega)
  have R1 := R.grow1 { cls := .type "slice", data := .fields #[vl, vu, .none] }
  have hall1 : HasAll X σ.length ρ (s.heap.push { cls := .type "slice", data := .fields #[vl, vu, .none] }) xs its := hall.mono (Nat.le_refl _) (fun _ _ => rfl) fun b o e _ => Heap.get?_push_of_some _ e
  have N := R1.1.newList (n := 0) (hall1.slice lo hi)
  have hh := ok _ _ _ (.ref (s.heap.push { cls := .type "slice", data := .fields #[vl, vu, .none] }).objs.size) _ s.toks h3 N.1 (R1.2.trans N.2) (by
    have := Has.ref (X := X) (n := (σ ++ [Cell.lst (sliceV xs lo hi)]).length) (ρ := fun i => if i = σ.length then (s.heap.push { cls := .type "slice", data := .fields #[vl, vu, .none] }).objs.size else ρ i) (h := (s.heap.push { cls := .type "slice", data := .fields #[vl, vu, .none] }).push { cls := .type "list", data := .seq (sliceV its lo hi).toArray 0 }) (i := σ.length) (by simp)
    simpa using this)
  rw [slicePick_plain]
  have es : ((its.toArray.toList.drop (lo.elim 0 (clipAt its.toArray.size))).take (hi.elim its.toArray.size (clipAt its.toArray.size) - lo.elim 0 (clipAt its.toArray.size))) = sliceV its lo hi := by
    unfold sliceV; simp
  rw [es]
  exact hh
theorem zql {l : Nat} {j : Int} {v : V} {xs : List V} {f : Store → Prop} (h1 : σ[l]? = some (.lst xs)) (h2 : 0 ≤ j ∧ j < 2 ^ 63) (h3 : j < xs.length) (h4 : f (σ.set l (.lst (xs.set j.toNat v)))) : setW X (.ref l) (.d (.int j)) v σ f := by
  intro A s ρ va vi vv Q E R ha hi hv h
  obtain ⟨t, rfl⟩ := hi.int_inv
  obtain ⟨_, rfl⟩ := ha.ref_inv
  obtain ⟨_, its, e, ⟨n, rfl⟩, hall⟩ := R.cell _ _ h1
  have hlen : xs.length = its.length := hall.length
  refine setItem_plain e h2.1 h2.2 (by rw [List.size_toArray, ← hlen]; exact h3) fun h' n' hp hsb => ?_
  have hp' : h'.get? (ρ l) = some { cls := .type "list", data := .seq (its.set j.toNat vv).toArray n' } := by simpa using hp
  obtain ⟨R', g'⟩ := R.setCell h1 hsb hp' (hall.set hv _)
  exact h _ h' h4 R' g'
end
end Mine

set_option Elab.async false
set_option autoImplicit false
set_option linter.unusedVariables false
namespace Mine
open PySem PySem.Spec PySem.Calls PyProof.Rows
noncomputable def Kp (X : Cx) (f : Value) : Prop := ∃ k, (k = Keeper.frame ∨ k = Keeper.machine ∨ k = Keeper.boundFrame) ∧
  ∀ (A : Around) (Q : Keeper → Shared → Prop) (E : Value → Shared → Prop) (s : Shared), (∀ b o, X.B.get? b = some o → s.heap.get? b = some o) → Q k s → wpAny (model X.prog X.w) A (keeperOf f) Q E s
noncomputable def ValidF (X : Cx) (k : Nat) (x : Str) (T : Contract) : Prop :=
  ∃ f, X.val x = some f ∧ Kp X f ∧ ∀ vs σ K, T vs σ K → ∀ (A : Around) (s : Shared) (ρ : Nat → Addr) (vals : List Value) (Q E : Value → Shared → Prop),
    ArC X k A s.heap → Rep X ρ σ s.heap → HasAll X σ.length ρ s.heap vs vals → OkE X σ ρ s K Q → ErE X none σ ρ s K E → wpAny (model X.prog X.w) A (call f vals) Q E s
noncomputable def ValidM (X : Cx) (k : Nat) (ty : String) (name : Str) (T : Contract) : Prop :=
  ∃ id, PlainAttrs ty ∧ PySem.Slot ty name id ∧ typeOf (.builtin id) = pure (.type "method_descriptor") ∧ ∀ vs σ K, T vs σ K → ∀ (A : Around) (s : Shared) (ρ : Nat → Addr) (vals : List Value) (Q E : Value → Shared → Prop),
    ArC X k A s.heap → Rep X ρ σ s.heap → HasAll X σ.length ρ s.heap vs vals → OkE X σ ρ s K Q → ErE X none σ ρ s K E → wpAny (model X.prog X.w) A (call (.builtin id) vals) Q E s
noncomputable def Sees {α : Type} (X : Cx) (t : Sem α) (v : α) : Prop := ∀ (M : Model) (A : Around) (Q : α → Shared → Prop) (E : Value → Shared → Prop) (s : Shared), (∀ b o, X.B.get? b = some o → s.heap.get? b = some o) → Q v s → wpAny M A t Q E s
noncomputable def bmV : List Value := [.type "ValueError", .type "Exception", .type "BaseException", .type "object"]
noncomputable def ExcOk (X : Cx) (c : Str) : Prop := ∃ C, OwnCls c C bmV "ValueError.__new__" X.mg X.B
noncomputable def SubOk (X : Cx) (c D : Str) : Prop := ∃ C Dc, X.mg c = some (.ref C) ∧ X.mg D = some (.ref Dc) ∧ Sees X (isSubtype (.ref C) (.ref Dc)) (kinB c D)
theorem Kp.func {X : Cx} {a : Addr} {o : Obj} {fd : FuncData} (ho : X.B.get? a = some o) (hd : o.data = .func fd) : Kp X (.ref a) :=
  ⟨.frame, .inl rfl, fun A Q E s hk hQ => by
    unfold keeperOf
    refine wpAny_bind (wpAny_load (hk _ _ ho) ?_)
    rw [hd]; exact wpAny_pure hQ⟩
theorem Kp.builtin {X : Cx} {id : String} : Kp X (.builtin id) := ⟨.machine, .inr (.inl rfl), fun A Q E s hk hQ => wpAny_pure hQ⟩
theorem Kp.type {X : Cx} {id : String} : Kp X (.type id) := ⟨.machine, .inr (.inl rfl), fun A Q E s hk hQ => wpAny_pure hQ⟩
section
variable {X : Cx} {k : Nat} {env : Env} {sc : Kinds} {m : Loc} {σ : Store} {K : OutE → Prop} {A : Around} {s : Shared} {ρ : Nat → Addr} {Q E : Value → Shared → Prop}
theorem callWith_gen {pos : Pos} {f : Value} {first : List Value} {args : List (Bool × Sem Value)} (hplain : args.any (·.1) = false) (hf : Kp X f)
    (h : wpAny (model X.prog X.w) A (evalArgs f true args []) (fun a s₁ => (∀ b o, X.B.get? b = some o → s₁.heap.get? b = some o) ∧ wpAny (model X.prog X.w) A (call f (first ++ a.pos) a.kw) Q E s₁) E s) :
    wpAny (model X.prog X.w) A (callWith pos f first args []) Q E s := by
  unfold callWith
  refine wpAny_bind (wpAny_holding (wpAny_mono h (fun a s₁ h₁ => wpAny_bind (wpAny_standAt ?_)) fun _ _ x => x))
  obtain ⟨k, hk', L⟩ := hf
  simp only [hplain, List.any_nil, Bool.or_false]
  refine wpAny_bind (L _ _ _ _ h₁.1 ?_)
  have tail : ∀ {t : Sem Value}, wpAny (model X.prog X.w) A t Q E s₁ → wpAny (model X.prog X.w) A (t >>= fun r => holding [r] point >>= fun _ => pure r) Q E s₁ :=
    fun ht => wpAny_bind (wpAny_mono ht (fun r s₂ hr => wpAny_bind (wpAny_holding (wpAny_point (wpAny_pure hr)))) fun _ _ x => x)
  have marked (mk : Value) : wpAny (model X.prog X.w) A (callMarked mk f (first ++ a.pos) a.kw) Q E s₁ := by unfold callMarked; exact Calls.wpAny_keep h₁.2
  rcases hk' with rfl | rfl | rfl <;> dsimp only <;> first | exact tail h₁.2 | (split <;> first | exact tail h₁.2 | exact tail (marked _))
theorem loadGlobal_sound {x : Str} {v : Value} (cx : CxOk X) (R : Rep X ρ σ s.heap) (F : Frm X env sc m σ.length ρ s.heap) (hv : X.val x = some v) (h : Q v s) : wpAny (model X.prog X.w) A (loadGlobal env x) Q E s := by
  unfold loadGlobal
  rw [F.glob, F.bi]
  refine wpAny_bind (wpAny_nsGet (cx.g.keeps R.base) ?_)
  unfold Cx.val at hv
  cases hg : X.mg x with
  | some u => rw [hg] at hv; cases hv; exact wpAny_pure h
  | none =>
    rw [hg] at hv
    refine wpAny_bind (wpAny_nsGet (cx.b.keeps R.base) ?_)
    have hv' : X.mb x = some v := hv
    rw [hv']; exact wpAny_pure h
theorem KindsOk.notDebug (hk : KindsOk sc env) {x : Str} {kd : NameKind} (h : sc x = some kd) : (x == ("__debug__" : Str)) = false := by
  cases hb : x == ("__debug__" : Str) with
  | false => rfl
  | true => rw [beq_iff_eq.mp hb, hk.debug] at h; cases h
theorem KindsOk.notClassdict (hk : KindsOk sc env) {x : Str} {kd : NameKind} (h : sc x = some kd) : (x == ("__classdict__" : Str)) = false := by
  cases hb : x == ("__classdict__" : Str) with
  | false => rfl
  | true => rw [beq_iff_eq.mp hb, hk.classdict] at h; cases h
theorem glob_sound {x : Str} {pos : Pos} {v : Value} (cx : CxOk X) (R : Rep X ρ σ s.heap) (F : Frm X env sc m σ.length ρ s.heap) (hx : sc x = some .globalImplicit) (hv : X.val x = some v) (h : Q v s) :
    wpAny (model X.prog X.w) A (eval (.Name x pos) env) Q E s :=
  Name_function_global F.kind (F.kinds.glob x hx) (loadGlobal_sound cx R F hv h) (F.kinds.notDebug hx)
theorem starEach_plain {e : Expr} {rest : List Expr} (h : noStar e = true) : starEach (e :: rest) env = (false, eval e env) :: starEach rest env := by
  cases e <;> first | rfl | exact absurd h (by simp [noStar])
noncomputable def ST (X : Cx) (k : Nat) (env : Env) (sc : Kinds) (t : Sem Bool) (m : Loc) (σ : Store) (K : OutE → Prop) (f : Bool → Store → Prop) : Prop :=
  ∀ (A : Around) (s : Shared) (ρ : Nat → Addr) (Q : Bool → Shared → Prop) (E : Value → Shared → Prop), Ar X k A env s.heap → Rep X ρ σ s.heap → Frm X env sc m σ.length ρ s.heap →
    (∀ b σ' ρ' h' tk, f b σ' → Rep X ρ' σ' h' → Go Nowhere σ ρ s.heap σ' ρ' h' → Ar X k A env h' → Frm X env sc m σ'.length ρ' h' → Q b { s with heap := h', toks := tk }) → ErE X env.frame σ ρ s K E → wpAny (model X.prog X.w) A t Q E s
theorem args_noStar {pos : Pos} : ∀ (es : List Expr), es.all noStar = true → (backTo pos (starEach es env)).any (·.1) = false
  | [], hw => rfl
  | e :: r, hw => by
    rw [List.all_cons, Bool.and_eq_true] at hw
    rw [starEach_plain hw.1]
    show (false || (backTo pos (starEach r env)).any (·.1)) = false
    rw [Bool.false_or]
    exact args_noStar r hw.2
end
end Mine

set_option Elab.async false
set_option autoImplicit false
set_option linter.unusedVariables false
namespace Mine
open PySem PySem.Spec PySem.Calls PyProof.Rows
section
variable {X : Cx} {k : Nat} {env : Env} {sc : Kinds} {m : Loc} {σ : Store} {K : OutE → Prop} {A : Around} {s : Shared} {ρ : Nat → Addr} {Q E : Value → Shared → Prop}
theorem evalArgs_gen {M : Model} {f : Value} {args : List (Bool × Sem Value)} {Q : Args → Shared → Prop} (hp : args.any (·.1) = false)
    (h : wpAny M A (spliced args) (fun vs s' => Q ⟨vs, []⟩ s') E s) : wpAny M A (evalArgs f true args []) Q E s := by
  cases args with
  | nil =>
    unfold evalArgs
    show wpAny M A (spliced [] >>= _) Q E s
    refine wpAny_bind (wpAny_mono h (fun vs s' h' => ?_) fun _ _ x => x)
    exact wpAny_holding (wpAny_bind (wpAny_pure (wpAny_bind (wpAny_pure (wpAny_pure h')))))
  | cons a r =>
    obtain ⟨b, x⟩ := a
    have hb : b = false := by
      have : (b || r.any (·.1)) = false := hp
      exact (Bool.or_eq_false_iff.mp this).1
    subst hb
    exact evalArgs_plain h
theorem release_any {M : Model} {vs keep : List Value} {Q : Unit → Shared → Prop} (h : Q () s) : wpAny M A (release vs keep) Q E s := fun Γ p _ => by rw [Sem.wp_release]; exact h
end
end Mine

set_option Elab.async false
set_option autoImplicit false
set_option linter.unusedVariables false
namespace Mine
open PySem PySem.Spec PySem.Calls PyProof.Rows
theorem runs_size {M : Model} {Γ : PySem.Ctx} {p : Pos} {t : Sem Fin} {fs : List Frame} {s s' : Shared} {e : End} (h : Runs M Γ p t fs s e s') : s.heap.objs.size ≤ s'.heap.objs.size := by
  induction h <;> (try simp only [Shared.setGen, Heap.size_push, Heap.size_after_update] at *) <;> omega
theorem wakes_size {M : Model} {Γ : PySem.Ctx} {p : Pos} {g : Nat} {r : Resume} {s s' : Shared} {res : GenResult} (h : Wakes M Γ p g r s res s') : s.heap.objs.size ≤ s'.heap.objs.size := by
  unfold Wakes at h
  split at h
  · exact h.elim
  · split at h
    · obtain ⟨e₁, s₁, hr, _, _, rfl⟩ := h; exact (runs_size hr : (s.setGen g .running).heap.objs.size ≤ s₁.heap.objs.size)
    · rw [h.2]; exact Nat.le_refl _
    · rw [h.2]; exact Nat.le_refl _
  · obtain ⟨e₁, s₁, hr, _, _, rfl⟩ := h; exact (runs_size hr : (s.setGen g .running).heap.objs.size ≤ s₁.heap.objs.size)
  · rw [h.2]; exact Nat.le_refl _
  · rw [h.2]; exact Nat.le_refl _
theorem wp_size {α : Type} (M : Model) (Γ : PySem.Ctx) (n : Nat) (t : Sem α) : ∀ (Q : α → Pos → Shared → Prop) (E : Value → Pos → Shared → Prop) (p : Pos) (s : Shared), n ≤ s.heap.objs.size → Sem.wp M Γ t Q E p s →
    Sem.wp M Γ t (fun a p' s' => n ≤ s'.heap.objs.size ∧ Q a p' s') (fun e p' s' => n ≤ s'.heap.objs.size ∧ E e p' s') p s := by
  induction t with
  | pure a => intro Q E p s hn h; exact ⟨hn, h⟩
  | raise e => intro Q E p s hn h; exact ⟨hn, h⟩
  | unsupported _ => intro Q E p s _ h; exact h
  | finish _ => intro Q E p s _ h; exact h
  | rule _ k ih => intro Q E p s hn h; exact ih () Q E p s hn h
  | «at» p' k ih => intro Q E p s hn h; exact ih () Q E p' s hn h
  | load a _ k ih => intro Q E p s hn h; obtain ⟨o, ho, h⟩ := h; exact ⟨o, ho, ih o Q E p s hn h⟩
  | update a _ f k ih => intro Q E p s hn h; exact ⟨h.1, ih () Q E p _ (by show n ≤ (s.heap.update a f).objs.size; rw [Heap.size_after_update]; exact hn) h.2⟩
  | loadIfAlive a k ih => intro Q E p s hn h; exact ih _ Q E p s hn h
  | point _ k ih => intro Q E p s hn h; exact ih () Q E p s hn h
  | register _ _ => intro Q E p s _ h; exact h
  | alloc o k ih => intro Q E p s hn h; exact ih _ Q E p _ (by show n ≤ (s.heap.push o).objs.size; rw [Heap.size_push]; exact Nat.le_succ_of_le hn) h
  | fresh k ih => intro Q E p s hn h; exact ih _ Q E p _ hn h
  | ask k ih => intro Q E p s hn h; exact ih _ Q E p s hn h
  | choose src m k ih => intro Q E p s hn h; exact ⟨h.1, ih _ Q E p _ hn h.2⟩
  | os q _ k ih => intro Q E p s hn h; exact ih _ Q E p _ hn h
  | call c hd _ _ k ih => intro Q E p s hn h; obtain ⟨r, s', hr, h⟩ := h; exact ⟨r, s', hr, ih r Q E p s' (Nat.le_trans hn (runs_size hr)) h⟩
  | handled own k ih => intro Q E p s hn h; exact ih _ Q E p s hn h
  | genState g k ih => intro Q E p s hn h; obtain ⟨st, hs, h⟩ := h; exact ⟨st, hs, ih _ Q E p s hn h⟩
  | newGen c k ih => intro Q E p s hn h; exact ih _ Q E p _ hn h
  | resume g r _ k ih => intro Q E p s hn h; obtain ⟨res, s', hw, h⟩ := h; exact ⟨res, s', hw, ih res Q E p s' (Nat.le_trans hn (wakes_size hw)) h⟩
  | yield _ _ _ _ => intro Q E p s _ h; exact h
  | stack k ih => intro Q E p s hn h; exact ih _ Q E p s hn h
  | fork _ _ => intro Q E p s _ h; exact h
  | thread k ih => intro Q E p s hn h; exact ih _ Q E p s hn h
  | await _ _ _ _ _ => intro Q E p s _ h; exact h
theorem wpAny_sized {α : Type} {M : Model} {A : Around} {s : Shared} {t : Sem α} {Q : α → Shared → Prop} {E : Value → Shared → Prop}
    (h : wpAny M A t (fun a s' => s.heap.objs.size ≤ s'.heap.objs.size → Q a s') (fun e s' => s.heap.objs.size ≤ s'.heap.objs.size → E e s') s) : wpAny M A t Q E s :=
  fun Γ p hΓ => Sem.wp_mono M Γ t (fun _ _ _ x => x.2 x.1) (fun _ _ _ x => x.2 x.1) p s (wp_size M Γ s.heap.objs.size t _ _ p s (Nat.le_refl _) (h Γ p hΓ))
structure Ext1 (I : Addr) (h h' : Heap) : Prop where
  size : h.objs.size ≤ h'.objs.size
  keep : ∀ b o, b ≠ I → h.get? b = some o → h'.get? b = some o
inductive IterAt (bad : Addr → Prop) (ρ : Nat → Addr) (h : Heap) (I : Addr) (k : Nat) : V → Prop
  | ref {l} : h.IsListIter I (ρ l) k → IterAt bad ρ h I k (.ref l)
  | tup {xs t items} : h.IsTupleIter I t k → h.IsTuple t items → RdsC bad h items.toList xs → IterAt bad ρ h I k (.d (.tuple xs))
  | rng {lo hi} : IsRangeIter h I (lo + k) (Builtin.Range.rangeSize lo hi 1 - k) 1 → IterAt bad ρ h I k (.rng lo hi)
noncomputable def IterObj (o : Obj) : Prop := (∃ T ∈ iterTypes, o.cls = .type T) ∧ ∃ vs, o.data = .fields vs
theorem IterAt.obj {bad : Addr → Prop} {ρ : Nat → Addr} {h : Heap} {I : Addr} {k : Nat} {src : V} (x : IterAt bad ρ h I k src) : ∃ o, h.get? I = some o ∧ IterObj o := by
  cases x with
  | ref hi => obtain ⟨o, h1, h2, h3⟩ := hi; exact ⟨o, h1, ⟨_, by simp [iterTypes], h2⟩, _, h3⟩
  | tup hi _ _ => obtain ⟨o, h1, h2, h3⟩ := hi; exact ⟨o, h1, ⟨"tuple_iterator", by simp [iterTypes], h2⟩, _, h3⟩
  | rng hi => exact ⟨_, hi, ⟨"range_iterator", by simp [iterTypes], rfl⟩, _, rfl⟩
section
variable {X : Cx} {σ σ' : Store} {ρ ρ' : Nat → Addr} {h h' h'' : Heap} {I : Addr} {k : Nat} {src : V} {W : Addr → Prop}
noncomputable def SrcOk (n : Nat) : V → Prop
  | .ref l => l < n
  | _ => True
theorem IterAt.mono {bad : Addr → Prop} (x : IterAt bad ρ h I k src) {n : Nat} (hs : SrcOk n src) (hρ : ∀ i, i < n → ρ' i = ρ i) (hI : ∀ o, h.get? I = some o → IterObj o → h'.get? I = some o) (hk : ∀ b o, h.get? b = some o → Still o → h'.get? b = some o) : IterAt bad ρ' h' I k src := by
  obtain ⟨o, e, hio⟩ := x.obj
  have e' := hI o e hio
  cases x with
  | ref hi =>
    obtain ⟨o', h1, h2, h3⟩ := hi
    rw [e] at h1; cases h1
    exact .ref ⟨o, e', h2, by rw [hρ _ hs]; exact h3⟩
  | tup hi ht hr =>
    obtain ⟨o', h1, h2, h3⟩ := hi
    rw [e] at h1; cases h1
    obtain ⟨o', t1, t2, n, t3⟩ := ht
    exact .tup ⟨o, e', h2, h3⟩ ⟨o', hk _ _ t1 (.tuple t2 t3), t2, n, t3⟩ (hr.to (fun _ _ _ q => q) fun b o e hc hs _ => let ⟨_, _, hd⟩ := hs; hk b o e (.tuple hc hd))
  | rng hi =>
    rw [hi] at e; cases e
    exact .rng e'
theorem Rep.notIter (R : Rep X ρ σ h) {o : Obj} (e : h.get? I = some o) (ho : IterObj o) : ∀ i, i < σ.length → I ≠ ρ i :=
  R.notCell e (by obtain ⟨⟨T, hT, hc⟩, _⟩ := ho; rw [hc]; simp [iterTypes] at hT; rcases hT with rfl | rfl | rfl | rfl | rfl | rfl <;> decide) (fun es n q => by obtain ⟨_, vs, hd⟩ := ho; rw [hd] at q; cases q)
theorem IterAt.go {bad : Addr → Prop} (x : IterAt bad ρ h I k src) (hs : SrcOk σ.length src) (R : Rep X ρ σ h) (g : Go W σ ρ h σ' ρ' h') (w : WOk W h) : IterAt bad ρ' h' I k src :=
  x.mono hs g.ext (fun o e ho => by
    have hnd : NoDict o := fun es n q => by obtain ⟨_, vs, hd⟩ := ho; rw [hd] at q; cases q
    have hnw : ¬ W I := fun q => by
      rcases w I o q e with ⟨es, n, hd⟩ | ⟨v, hd⟩
      · exact hnd es n hd
      · obtain ⟨_, vs, hd'⟩ := ho; rw [hd'] at hd; cases hd
    obtain ⟨sl, e1, f1⟩ := g.keep I o e hnw (R.notIter e ho)
    rw [f1 hnd] at e1
    exact e1) (g.still R w)
theorem Ext1.still (x : Ext1 I h h') {o : Obj} (e : h.get? I = some o) (ho : IterObj o) : ∀ b o, h.get? b = some o → Still o → h'.get? b = some o := fun b o' e' hs => by
  refine x.keep b o' (fun q => ?_) e'
  subst q
  rw [e] at e'; cases e'
  obtain ⟨⟨T, hT, hc⟩, _⟩ := ho
  exact hs.noiter T hT hc
theorem Rep.ext1 (R : Rep X ρ σ h) (x : Ext1 I h h') {o : Obj} (e : h.get? I = some o) (ho : IterObj o) (hb : X.B.get? I = none) : Rep X ρ σ h' where
  base := fun b o' e' => x.keep b o' (fun q => by subst q; rw [hb] at e'; cases e') (R.base b o' e')
  cell := fun i c hc => by
    obtain ⟨oc, its, hp, sh, ha⟩ := R.cell i c hc
    exact ⟨oc, its, x.keep _ _ (Ne.symm (R.notIter e ho i (List.getElem?_eq_some_iff.mp hc).1)) hp, sh, ha.mono (Nat.le_refl _) (fun _ _ => rfl) (x.still e ho)⟩
  own := R.own
  inj := R.inj
  bad := R.badKeep (x.still e ho)
theorem Go.ext1 (g : Go W σ ρ h σ' ρ' h') (x : Ext1 I h' h'') (hI : h.objs.size ≤ I) : Go W σ ρ h σ' ρ' h'' where
  size := Nat.le_trans g.size x.size
  keep := fun b o e hw hb => let ⟨sl, e1, f1⟩ := g.keep b o e hw hb; ⟨sl, x.keep _ _ (Nat.ne_of_lt (Nat.lt_of_lt_of_le (Heap.lt_size e) hI)) e1, f1⟩
  dicts := fun b o es n e d => let ⟨o', es', n', e', d'⟩ := g.dicts b o es n e d; ⟨o', es', n', x.keep _ _ (Nat.ne_of_lt (Nat.lt_of_lt_of_le (Heap.lt_size e) hI)) e', d'⟩
  len := g.len
  ext := g.ext
  new := g.new
theorem Frm.ext1 {env : Env} {sc : Kinds} {m : Loc} {n : Nat} (F : Frm X env sc m n ρ h) (x : Ext1 I h h') {o : Obj} (e : h.get? I = some o) (ho : IterObj o) : Frm X env sc m n ρ h' := by
  have st := x.still e ho
  have hv : ∀ {v a}, Has X n ρ h v a → Has X n ρ h' v a := fun q => q.mono (Nat.le_refl _) (fun _ _ => rfl) st
  have hc : ∀ c ov, h.IsCell c ov → h'.IsCell c ov := fun c ov ⟨o', e', d⟩ => ⟨o', x.keep _ _ (fun q => by subst q; rw [e] at e'; cases e'; obtain ⟨_, vs, hd⟩ := ho; rw [hd] at d; cases d) e', d⟩
  refine { F with ns := ?_, cells := ?_, isCells := ?_ }
  · obtain ⟨mm, ⟨o', es, ep, e', d, r⟩, hm⟩ := F.ns
    refine ⟨mm, ⟨o', es, ep, x.keep _ _ (fun q => ?_) e', d, r⟩, fun y v h1 h2 => let ⟨a, h3, h4⟩ := hm y v h1 h2; ⟨a, h3, hv h4⟩⟩
    rw [q] at e'; rw [e] at e'; cases e'; obtain ⟨_, vs, hd⟩ := ho; rw [hd] at d; cases d
  · intro y hy
    obtain ⟨c, ov, h1, h2, h3⟩ := F.cells y hy
    exact ⟨c, ov, h1, hc c ov h2, fun v q => let ⟨a, h4, h5⟩ := h3 v q; ⟨a, h4, hv h5⟩⟩
  · intro y c hy
    obtain ⟨ov, h1⟩ := F.isCells y c hy
    exact ⟨ov, hc c ov h1⟩
theorem Ar.ext1 {k : Nat} {A : Around} {env : Env} (a : Ar X k A env h) (x : Ext1 I h h') {o : Obj} (e : h.get? I = some o) (ho : IterObj o) : Ar X k A env h' :=
  by
  refine { a with stack := ?_ }
  obtain ⟨f, ou, h1, h2, h3⟩ := a.stack
  refine ⟨f, ou, h1, h2, fun env he => ?_⟩
  obtain ⟨q1, L, o', es, n, q2, q3, q4, q5⟩ := h3 env he
  refine ⟨q1, L, o', es, n, q2, q3, x.keep _ _ (fun q => ?_) q4, q5⟩
  subst q; rw [e] at q4; cases q4; obtain ⟨_, vs, hd⟩ := ho; rw [hd] at q5; cases q5
theorem Rep.push (R : Rep X ρ σ h) (o : Obj) : Rep X ρ σ (h.push o) ∧ Go W σ ρ h σ ρ (h.push o) := by
  have hk : ∀ b o', h.get? b = some o' → (h.push o).get? b = some o' := fun b o' e => Heap.get?_push_of_some _ e
  refine ⟨⟨fun b o' e => hk _ _ (R.base b o' e), fun i c hc => ?_, R.own, R.inj, R.badKeep fun b o e _ => hk b o e⟩, ⟨by rw [Heap.size_push]; exact Nat.le_succ _, fun b o' e _ _ => ⟨o'.slots, hk b o' e, fun _ => rfl⟩, fun b o' es n e d => ⟨o', es, n, hk _ _ e, d⟩, Nat.le_refl _, fun _ _ => rfl, fun i h1 h2 => absurd h2 (Nat.not_lt.mpr h1)⟩⟩
  obtain ⟨oc, its, hp, sh, ha⟩ := R.cell i c hc
  exact ⟨oc, its, hk _ _ hp, sh, ha.mono (Nat.le_refl _) (fun _ _ => rfl) fun b o' e _ => hk b o' e⟩
end
section
variable {X : Cx} {k : Nat} {env : Env} {sc : Kinds} {m : Loc} {σ : Store} {A : Around} {s : Shared} {ρ : Nat → Addr} {E : Value → Shared → Prop}
noncomputable def IsSrc (σ : Store) : V → Prop
  | .ref l => ∃ xs, itemsAt σ l = some xs
  | .d (.tuple _) => True
  | .rng _ _ => True
  | _ => False
theorem isSrc_of {src : V} {i : Nat} {r : Option V} (h : srcNext σ src i = some r) : IsSrc σ src := by
  unfold srcNext at h
  split at h <;> first | exact trivial | cases h | (obtain ⟨xs, q, _⟩ := Option.map_eq_some_iff.mp h; exact ⟨xs, q⟩)
theorem srcOk_of {src : V} {a : Value} {h : Heap} (x : Has X σ.length ρ h src a) : SrcOk σ.length src := by
  cases x <;> first | exact trivial | assumption
theorem iter_sound {src : V} {a : Value} {Q : Value → Shared → Prop} (hs : IsSrc σ src) (R : Rep X ρ σ s.heap) (hv : Has X σ.length ρ s.heap src a)
    (h : ∀ h', IterAt X.bad ρ h' s.heap.objs.size 0 src → (∃ o, h' = s.heap.push o) → Q (.ref s.heap.objs.size) { s with heap := h' }) : wpAny (model X.prog X.w) A (pyIter a) Q E s := by
  unfold IsSrc at hs
  split at hs
  · obtain ⟨hi, rfl⟩ := hv.ref_inv
    obtain ⟨xs, hs⟩ := hs
    obtain ⟨_, its, ⟨n, hp⟩, ha⟩ := R.list hs
    exact wpAny_pyIter_list ⟨_, hp, rfl, n, rfl⟩ (h _ (.ref ⟨_, Heap.get?_push_size _ rfl, rfl, rfl⟩) ⟨_, rfl⟩)
  · have r := hv.d_rdc
    cases r with
    | @tuple a o vs n xs e1 e2 e3 eb e4 =>
      refine wpAny_pyIter_tuple ⟨o, e1, e2, n, e3⟩ (h _ (.tup ⟨_, Heap.get?_push_size _ rfl, rfl, rfl⟩ ⟨o, Heap.get?_push_of_some _ e1, e2, n, e3⟩ ?_) ⟨_, rfl⟩)
      exact e4.to (fun _ _ _ q => q) fun b o e _ _ _ => Heap.get?_push_of_some _ e
  · cases hv with
    | rng h1 h2 =>
      refine wpAny_pyIter_range h1 h2 (h _ (.rng ?_) ⟨_, rfl⟩)
      simpa using Heap.get?_push_size s.heap (o := { cls := .type "range_iterator", data := .fields #[rawInt _, rawInt (Builtin.Range.rangeSize _ _ 1), rawInt 1] }) rfl
  · exact hs.elim
theorem iterAgain_sound {src : V} {I : Addr} {j : Nat} {Q : Value → Shared → Prop} (it : IterAt X.bad ρ s.heap I j src) (h : Q (.ref I) s) : wpAny (model X.prog X.w) A (pyIter (.ref I)) Q E s := by
  cases it with
  | ref hi => exact wpAny_pyIter_listiter hi h
  | tup hi _ _ => exact wpAny_pyIter_tupleiter hi h
  | rng hi => exact wpAny_pyIter_rangeiter hi h
theorem next_sound {src : V} {I : Addr} {j : Nat} {r : Option V} {Q : Option Value → Shared → Prop} (hh : A.handled = none) (R : Rep X ρ σ s.heap) (it : IterAt X.bad ρ s.heap I j src) (hs : SrcOk σ.length src) (e : srcNext σ src j = some r)
    (hsome : ∀ v a h' tk, r = some v → Has X σ.length ρ h' v a → IterAt X.bad ρ h' I (j + 1) src → Ext1 I s.heap h' → Q (some a) { s with heap := h', toks := tk })
    (hnone : ∀ h' tk, r = none → Ext1 I s.heap h' → Q none { s with heap := h', toks := tk }) : wpAny (model X.prog X.w) A (pyNext (.ref I)) Q E s := by
  obtain ⟨oI, eI, hoI⟩ := it.obj
  have sb : ∀ {h'}, Heap.SameBut I s.heap h' → Ext1 I s.heap h' := fun q => ⟨Nat.le_of_eq q.1.symm, fun b o hb e' => (q.2 b hb).trans e'⟩
  cases it with
  | @ref l hi =>
    have hl : l < σ.length := hs
    obtain ⟨xs, hxs, e'⟩ := Option.map_eq_some_iff.mp (show (itemsAt σ l).map (fun xs => xs[j]?) = some r from e)
    obtain ⟨_, its, ⟨n, hp⟩, ha⟩ := R.list hxs
    have hL : s.heap.IsList (ρ l) its.toArray := ⟨_, hp, rfl, n, rfl⟩
    subst e'
    cases hx : xs[j]? with
    | some v =>
      obtain ⟨a, h1, h2⟩ := ha.get hx
      refine wpAny_pyNext_list_item hi hL (by simpa using h1) fun h' hi' hsb => ?_
      exact hsome v a h' s.toks hx (h2.mono (Nat.le_refl _) (fun _ _ => rfl) ((sb hsb).still eI hoI)) (.ref hi') (sb hsb)
    | none =>
      have : its.toArray[j]? = none := by
        have hlen := ha.length
        rw [List.getElem?_eq_none_iff] at hx
        simp; omega
      refine wpAny_sized (wpAny_pyNext_list_end hh hi hL this fun h' hext hsz => ?_)
      exact hnone h' s.toks hx ⟨hsz, fun b o hb e' => hext b o hb e'⟩
  | @tup xs t items hi ht hr =>
    have e' : r = xs[j]?.map V.d := (Option.some.inj e).symm
    subst e'
    cases hx : xs[j]? with
    | some v =>
      obtain ⟨a, h1, h2⟩ := hr.get hx
      refine wpAny_pyNext_tuple_item hi ht (by simpa using h1) fun h' hi' hsb => ?_
      have st := (sb hsb).still eI hoI
      obtain ⟨o', t1, t2, n, t3⟩ := ht
      exact hsome (.d v) a h' s.toks (by rw [hx]; rfl) ((Has.d h2).mono (X := X) (n := σ.length) (ρ := ρ) (Nat.le_refl _) (fun _ _ => rfl) st) (.tup hi' ⟨o', st _ _ t1 (.tuple t2 t3), t2, n, t3⟩ (hr.to (fun _ _ _ q => q) fun b o e hc hs _ => let ⟨_, _, hd⟩ := hs; st b o e (.tuple hc hd))) (sb hsb)
    | none =>
      have : items[j]? = none := by
        have hlen := SeqAt.ReadsAll.length _ _ _ hr.reads
        rw [List.getElem?_eq_none_iff] at hx
        simp at hlen ⊢; omega
      refine wpAny_sized (wpAny_pyNext_tuple_end hh hi ht this fun h' hext hsz => ?_)
      exact hnone h' s.toks (by rw [hx]; rfl) ⟨hsz, fun b o hb e' => hext b o hb e'⟩
  | @rng lo hi hit =>
    have e' : r = if lo + j < hi then some (.d (.int (lo + j))) else none := (Option.some.inj e).symm
    subst e'
    have hsize : Builtin.Range.rangeSize lo hi 1 = if lo < hi then hi - lo else 0 := by
      unfold Builtin.Range.rangeSize
      simp only [show (1 : Int) > 0 by decide, if_true]
      split
      · rw [Int.ediv_one]; omega
      · rfl
    by_cases hlt : lo + j < hi
    · refine wpAny_pyNext_range_item hit (by rw [hsize, if_pos (by omega)]; omega) fun h' hi' hsb => ?_
      refine hsome _ _ h' _ (if_pos hlt) (.ofInt ..) (.rng ?_) (sb hsb)
      have e1 : lo + (j : Int) + 1 = lo + ((j + 1 : Nat) : Int) := by omega
      have e2 : Builtin.Range.rangeSize lo hi 1 - (j : Int) - 1 = Builtin.Range.rangeSize lo hi 1 - ((j + 1 : Nat) : Int) := by omega
      rw [← e1, ← e2]; exact hi'
    · refine wpAny_sized (wpAny_pyNext_range_end hh hit (by rw [hsize]; split <;> omega) fun h' hext hsz => ?_)
      exact hnone h' s.toks (if_neg hlt) ⟨hsz, fun b o hb e' => hext b o hb e'⟩
end
end Mine

set_option Elab.async false
set_option autoImplicit false
set_option linter.unusedVariables false
namespace Mine
open PySem PySem.Spec PySem.Calls PyProof.Rows
theorem upd_upd (m : Loc) (x : Str) (u v : V) : upd (upd m x u) x v = upd m x v := by
  funext y; unfold upd; split <;> rfl
section
variable {X : Cx} {σ σ' : Store} {ρ ρ' : Nat → Addr} {h h' h'' : Heap} {D : Addr} {env : Env} {sc : Kinds} {m : Loc}
theorem Rep.but (R : Rep X ρ σ h) (x : Ext1 D h h') (hn : ∀ o, h.get? D = some o → ¬ Still o) (hc : ∀ i, i < σ.length → ρ i ≠ D) (hb : X.B.get? D = none) : Rep X ρ σ h' where
  base := fun b o' e' => x.keep b o' (fun q => by subst q; rw [hb] at e'; cases e') (R.base b o' e')
  cell := fun i c hc' => by
    obtain ⟨oc, its, hp, sh, ha⟩ := R.cell i c hc'
    exact ⟨oc, its, x.keep _ _ (hc i (List.getElem?_eq_some_iff.mp hc').1) hp, sh, ha.mono (Nat.le_refl _) (fun _ _ => rfl) fun b o e hs => x.keep b o (fun q => hn o (q ▸ e) hs) e⟩
  own := R.own
  inj := R.inj
  bad := R.badKeep fun b o e hs => x.keep b o (fun q => hn o (q ▸ e) hs) e
theorem Ext1.still' (x : Ext1 D h h') (hn : ∀ o, h.get? D = some o → ¬ Still o) : ∀ b o, h.get? b = some o → Still o → h'.get? b = some o :=
  fun b o e hs => x.keep b o (fun q => hn o (q ▸ e) hs) e
theorem Frm.but {n : Nat} (F : Frm X env sc m n ρ h) (x : Ext1 D h h') (hn : ∀ o, h.get? D = some o → ¬ Still o ∧ NoDict o ∧ ∀ v, o.data ≠ .cell v) : Frm X env sc m n ρ h' := by
  have st := x.still' fun o e => (hn o e).1
  have hv : ∀ {v a}, Has X n ρ h v a → Has X n ρ h' v a := fun q => q.mono (Nat.le_refl _) (fun _ _ => rfl) st
  have hc : ∀ c ov, h.IsCell c ov → h'.IsCell c ov := fun c ov ⟨o', e', d⟩ => ⟨o', x.keep _ _ (fun q => (hn o' (q ▸ e')).2.2 _ d) e', d⟩
  refine { F with ns := ?_, cells := ?_, isCells := ?_ }
  · obtain ⟨mm, ⟨o', es, ep, e', d, r⟩, hm⟩ := F.ns
    exact ⟨mm, ⟨o', es, ep, x.keep _ _ (fun q => (hn o' (q ▸ e')).2.1 es ep d) e', d, r⟩, fun y v h1 h2 => let ⟨a, h3, h4⟩ := hm y v h1 h2; ⟨a, h3, hv h4⟩⟩
  · intro y hy
    obtain ⟨c, ov, h1, h2, h3⟩ := F.cells y hy
    exact ⟨c, ov, h1, hc c ov h2, fun v q => let ⟨a, h4, h5⟩ := h3 v q; ⟨a, h4, hv h5⟩⟩
  · intro y c hy
    obtain ⟨ov, h1⟩ := F.isCells y c hy
    exact ⟨ov, hc c ov h1⟩
theorem Ar.but {k : Nat} {A : Around} (a : Ar X k A env h) (x : Ext1 D h h') (hn : ∀ o, h.get? D = some o → NoDict o) : Ar X k A env h' := by
  refine { a with stack := ?_ }
  obtain ⟨f, ou, h1, h2, h3⟩ := a.stack
  refine ⟨f, ou, h1, h2, fun env he => ?_⟩
  obtain ⟨q1, L, o', es, n, q2, q3, q4, q5⟩ := h3 env he
  exact ⟨q1, L, o', es, n, q2, q3, x.keep _ _ (fun q => hn o' (q ▸ q4) es n q5) q4, q5⟩
theorem Ext1.ofSame (q : Heap.SameBut D h h') : Ext1 D h h' := ⟨Nat.le_of_eq q.1.symm, fun b o hb e => (q.2 b hb).trans e⟩
theorem Still.notNs {o : Obj} {es n} (hd : o.data = .dict es n) : ¬ Still o := fun s => s.nodict es n hd
theorem Still.notCell {o : Obj} {v} (hd : o.data = .cell v) : ¬ Still o := fun s => s.nocell v hd
theorem Still.notList {o : Obj} (hc : o.cls = .type "list") : ¬ Still o := fun s => s.cls hc
theorem Rep.lt (R : Rep X ρ σ h) {i : Nat} (hi : i < σ.length) : ρ i < h.objs.size := by
  obtain ⟨_, _, hp, _, _⟩ := R.cell i _ (List.getElem?_eq_getElem hi)
  exact Heap.lt_size hp
theorem Rep.adopt (R : Rep X ρ σ h) {vs : List V} {items : List Value} {n : Nat} (hD : h.get? D = some { cls := .type "list", data := .seq items.toArray n }) (hv : HasAll X σ.length ρ h vs items)
    (hc : ∀ i, i < σ.length → ρ i ≠ D) (hb : X.B.get? D = none) :
    ∃ ρ', Rep X ρ' (σ ++ [.lst vs]) h ∧ (∀ i, i < σ.length → ρ' i = ρ i) ∧ ρ' σ.length = D := by
  let ρ' := fun i => if i = σ.length then D else ρ i
  have hρ : ∀ i, i < σ.length → ρ' i = ρ i := fun i hi => if_neg (Nat.ne_of_lt hi)
  have hD' : ρ' σ.length = D := if_pos rfl
  have last : ∀ {i c}, (σ ++ [Cell.lst vs])[i]? = some c → ¬ i < σ.length → i = σ.length := fun {i c} hc hi => by
    have := (List.getElem?_eq_some_iff.mp hc).1
    simp at this; omega
  refine ⟨ρ', ⟨R.base, ?_, ?_, ?_, R.bad⟩, hρ, hD'⟩
  · intro i c hc'
    by_cases hi : i < σ.length
    · rw [List.getElem?_append_left hi] at hc'
      obtain ⟨oc, its, hp, sh, ha⟩ := R.cell i c hc'
      rw [hρ i hi]
      exact ⟨oc, its, hp, sh, ha.mono (by simp) hρ fun _ _ e _ => e⟩
    · have hi' := last hc' hi
      subst hi'
      simp at hc'; subst hc'
      rw [hD']
      exact ⟨_, items, hD, ⟨n, rfl⟩, hv.mono (by simp) hρ fun _ _ e _ => e⟩
  · intro i c hc' ho
    by_cases hi : i < σ.length
    · rw [List.getElem?_append_left hi] at hc'; rw [hρ i hi]; exact R.own i c hc' ho
    · rw [last hc' hi, hD']; exact hb
  · intro i j hi hj e
    simp only [List.length_append, List.length_cons, List.length_nil] at hi hj
    by_cases h1 : i = σ.length <;> by_cases h2 : j = σ.length
    · omega
    · rw [h1, hD', hρ j (by omega)] at e; exact absurd e.symm (hc j (by omega))
    · rw [h2, hD', hρ i (by omega)] at e; exact absurd e (hc i (by omega))
    · rw [hρ i (by omega), hρ j (by omega)] at e; exact R.inj i j (by omega) (by omega) e
end
section
variable {X : Cx} {k : Nat} {env : Env} {sc : Kinds} {m : Loc} {σ : Store} {A : Around} {s : Shared} {ρ : Nat → Addr} {E : Value → Shared → Prop} {Q : Unit → Shared → Prop}
theorem storeLocal_sound {x : Str} {v : V} {a : Value} (R : Rep X ρ σ s.heap) (F : Frm X env sc m σ.length ρ s.heap) (hx : sc x = some .local) (hv : Has X σ.length ρ s.heap v a)
    (h : ∀ h' tk, Rep X ρ σ h' → Go (· = env.locals) σ ρ s.heap σ ρ h' → Frm X env sc (upd m x v) σ.length ρ h' → Heap.SameBut env.locals s.heap h' → Q () { s with heap := h', toks := tk }) :
    wpAny (model X.prog X.w) A (storeName env x a) Q E s := by
  obtain ⟨mm, hns, hm⟩ := F.ns
  refine wpAny_storeName_local (F.kinds.loc x hx) hns (fun h' hn' hsb => ?_) (by rw [F.kind]; rfl)
  obtain ⟨oL, esL, epL, eL, dL, rL⟩ := hns
  have ex := Ext1.ofSame hsb
  have hn : ∀ o, s.heap.get? env.locals = some o → ¬ Still o := fun o e => by rw [eL] at e; cases e; exact Still.notNs dL
  have st := ex.still' hn
  have R' := R.but ex hn F.sepL F.newL
  have hv' : ∀ {v a}, Has X σ.length ρ s.heap v a → Has X σ.length ρ h' v a := fun q => q.mono (Nat.le_refl _) (fun _ _ => rfl) st
  have hcell : ∀ c ov, s.heap.IsCell c ov → h'.IsCell c ov := fun c ov ⟨o', e', d⟩ => ⟨o', ex.keep _ _ (fun q => by rw [q, eL] at e'; cases e'; rw [dL] at d; cases d) e', d⟩
  refine h h' _ R' ⟨ex.size, fun b o e hw _ => ⟨o.slots, ex.keep b o hw e, fun _ => rfl⟩, fun b o es n e d => ?_, Nat.le_refl _, fun _ _ => rfl, fun i h1 h2 => absurd h2 (Nat.not_lt.mpr h1)⟩ ?_ hsb
  · by_cases hb : b = env.locals
    · subst hb
      obtain ⟨o', es', ep', e', d', _⟩ := hn'
      exact ⟨o', es', ep', e', d'⟩
    · exact ⟨o, es, n, ex.keep b o hb e, d⟩
  · refine { F with ns := ⟨_, hn', ?_⟩, cells := ?_, isCells := ?_ }
    · intro y u hy hu
      unfold upd at hu
      by_cases hyx : y = x
      · rw [if_pos hyx] at hu; cases hu
        exact ⟨a, if_pos hyx, hv' hv⟩
      · rw [if_neg hyx] at hu
        obtain ⟨b, h1, h2⟩ := hm y u hy hu
        exact ⟨b, by rw [if_neg hyx]; exact h1, hv' h2⟩
    · intro y hy
      obtain ⟨c, ov, h1, h2, h3⟩ := F.cells y hy
      refine ⟨c, ov, h1, hcell c ov h2, fun u hu => ?_⟩
      unfold upd at hu
      by_cases hyx : y = x
      · rw [hyx, hx] at hy; rcases hy with q | q <;> cases q
      · rw [if_neg hyx] at hu
        obtain ⟨b, h4, h5⟩ := h3 u hu
        exact ⟨b, h4, hv' h5⟩
    · intro y c hy
      obtain ⟨ov, h1⟩ := F.isCells y c hy
      exact ⟨ov, hcell c ov h1⟩
theorem store_sound {x : Str} {v : V} {a : Value} (R : Rep X ρ σ s.heap) (F : Frm X env sc m σ.length ρ s.heap) (hx : bindable sc x) (hv : Has X σ.length ρ s.heap v a)
    (h : ∀ h' tk, Rep X ρ σ h' → Go (Wr env) σ ρ s.heap σ ρ h' → Frm X env sc (upd m x v) σ.length ρ h' → Q () { s with heap := h', toks := tk }) :
    wpAny (model X.prog X.w) A (storeName env x a) Q E s := by
  rcases hx with hx | hx
  · exact storeLocal_sound R F hx hv fun h' tk R' g F' _ => h h' tk R' (g.weaken fun b _ _ q => .inl q) F'
  · obtain ⟨c, ov, h1, h2, h3⟩ := F.cells x (.inl hx)
    refine wpAny_storeName_cell F.kind (F.kinds.cell x hx) h1 h2 fun h' hc' hsb => ?_
    obtain ⟨oc, ec, dc⟩ := h2
    have ex := Ext1.ofSame hsb
    have hn : ∀ o, s.heap.get? c = some o → ¬ Still o := fun o e => by rw [ec] at e; cases e; exact Still.notCell dc
    have st := ex.still' hn
    have hsep : ∀ i, i < σ.length → ρ i ≠ c := by
      rintro i hi rfl
      obtain ⟨oc', items, hp, sh, _⟩ := R.cell i _ (List.getElem?_eq_getElem hi)
      rw [hp] at ec; cases ec
      rcases sh.is with ⟨_, _, _, q⟩ | ⟨_, _, _, q⟩ <;> (rw [q] at dc; cases dc)
    have R' := R.but ex hn hsep (F.newC x c h1)
    have hv' : ∀ {v a}, Has X σ.length ρ s.heap v a → Has X σ.length ρ h' v a := fun q => q.mono (Nat.le_refl _) (fun _ _ => rfl) st
    refine h h' _ R' ⟨ex.size, fun b o e hw _ => ⟨o.slots, ex.keep b o (fun q => hw (.inr ⟨x, q ▸ h1⟩)) e, fun _ => rfl⟩, fun b o es n e d => ?_, Nat.le_refl _, fun _ _ => rfl, fun i h1 h2 => absurd h2 (Nat.not_lt.mpr h1)⟩ ?_
    · exact ⟨o, es, n, ex.keep b o (fun q => by rw [q, ec] at e; cases e; rw [dc] at d; cases d) e, d⟩
    · refine { F with ns := ?_, cells := ?_, isCells := ?_ }
      · obtain ⟨mm, ⟨oL, esL, epL, eL, dL, rL⟩, hm⟩ := F.ns
        refine ⟨mm, ⟨oL, esL, epL, ex.keep _ _ (fun q => by rw [q, ec] at eL; cases eL; rw [dc] at dL; cases dL) eL, dL, rL⟩, fun y u hy hu => ?_⟩
        unfold upd at hu
        by_cases hyx : y = x
        · rw [hyx, hx] at hy; cases hy
        · rw [if_neg hyx] at hu
          obtain ⟨b, h4, h5⟩ := hm y u hy hu
          exact ⟨b, h4, hv' h5⟩
      · intro y hy
        by_cases hyx : y = x
        · subst hyx
          refine ⟨c, some a, h1, hc', fun u hu => ?_⟩
          unfold upd at hu
          rw [if_pos rfl] at hu; cases hu
          exact ⟨a, rfl, hv' hv⟩
        · obtain ⟨c', ov', q1, q2, q3⟩ := F.cells y hy
          have hne : c' ≠ c := fun q => hyx (F.apart y x c (q ▸ q1) h1)
          obtain ⟨o', e', d'⟩ := q2
          refine ⟨c', ov', q1, ⟨o', ex.keep _ _ hne e', d'⟩, fun u hu => ?_⟩
          unfold upd at hu
          rw [if_neg hyx] at hu
          obtain ⟨b, h4, h5⟩ := q3 u hu
          exact ⟨b, h4, hv' h5⟩
      · intro y c' hy
        by_cases hne : c' = c
        · subst hne; exact ⟨_, hc'⟩
        · obtain ⟨ov', o', e', d'⟩ := F.isCells y c' hy
          exact ⟨ov', o', ex.keep _ _ hne e', d'⟩
end
end Mine

set_option Elab.async false
set_option autoImplicit false
set_option linter.unusedVariables false
namespace Mine
open PySem PySem.Spec PySem.Calls PyProof.Rows
noncomputable def clos (cells : List (Str × Addr)) : List (Str × NameKind) → List (Str × Addr) → List (Str × Addr)
  | [], acc => acc
  | (n, k) :: r, acc => if k == .free then (match cells.lookup n with | some c => clos cells r ((n, c) :: acc) | none => clos cells r acc) else clos cells r acc
theorem clos_forIn {env : Env} (f : Str × NameKind → List (Str × Addr) → Sem (ForInStep (List (Str × Addr))))
    (hf : ∀ n k cs, f (n, k) cs = if k == .free then (do let c ← cellOf env n; pure (.yield ((n, c) :: cs))) else pure (.yield cs)) :
    ∀ (names : List (Str × NameKind)) (acc : List (Str × Addr)), (∀ y ∈ names, y.2 = .free → ∃ c, env.cells.lookup y.1 = some c) → forIn names acc f = pure (clos env.cells names acc)
  | [], acc, _ => by rw [List.forIn_nil]; rfl
  | (n, k) :: r, acc, h => by
    rw [List.forIn_cons, hf]
    have hr := clos_forIn f hf r
    unfold clos
    by_cases hk : k = .free
    · subst hk
      obtain ⟨c, hc⟩ := h (n, .free) List.mem_cons_self rfl
      simp only [beq_self_eq_true, if_true]
      have : cellOf env n = pure c := by unfold cellOf; rw [hc]
      rw [this, hc]
      exact hr _ fun y hy => h y (List.mem_cons_of_mem _ hy)
    · have hb : (k == NameKind.free) = false := by simpa using hk
      simp only [hb, Bool.false_eq_true, if_false]
      exact hr _ fun y hy => h y (List.mem_cons_of_mem _ hy)
theorem closureFor_eq {env : Env} {scope : Scope} (h : ∀ y ∈ scope.names, y.2 = .free → ∃ c, env.cells.lookup y.1 = some c) : closureFor scope env = pure (clos env.cells scope.names []) := by
  simp only [closureFor]
  rw [clos_forIn (env := env) _ (fun n k cs => by cases hk : k == NameKind.free <;> simp [hk]) scope.names [] h]
  rfl
theorem clos_lookup {cells : List (Str × Addr)} : ∀ (names : List (Str × NameKind)) (acc : List (Str × Addr)), (∀ n c, acc.lookup n = some c → cells.lookup n = some c) → ∀ n c, (clos cells names acc).lookup n = some c → cells.lookup n = some c
  | [], acc, h, n, c, e => h n c e
  | (y, k) :: r, acc, h, n, c, e => by
    unfold clos at e
    split at e
    · split at e
      · rename_i c' hc'
        refine clos_lookup r _ (fun n' c'' q => ?_) n c e
        rw [List.lookup_cons] at q
        cases hb : n' == y with
        | true => rw [hb] at q; cases q; rw [beq_iff_eq.mp hb]; exact hc'
        | false => rw [hb] at q; exact h n' c'' q
      · exact clos_lookup r acc h n c e
    · exact clos_lookup r acc h n c e
theorem clos_isSome {cells : List (Str × Addr)} {n : Str} : ∀ (names : List (Str × NameKind)) (acc : List (Str × Addr)), (acc.lookup n).isSome = true ∨ ((n, NameKind.free) ∈ names ∧ (cells.lookup n).isSome = true) → ((clos cells names acc).lookup n).isSome = true
  | [], acc, h => by
    rcases h with h | h
    · exact h
    · exact absurd h.1 (by simp)
  | (y, k) :: r, acc, h => by
    unfold clos
    split
    · rename_i hk
      split
      · rename_i c hc
        refine clos_isSome r _ ?_
        by_cases hy : (n == y) = true
        · left; rw [List.lookup_cons, hy]; rfl
        · rcases h with h | ⟨h, h'⟩
          · left; rw [List.lookup_cons]; simp only [hy]; exact h
          · rcases List.mem_cons.mp h with e | h
            · cases e; simp at hy
            · exact .inr ⟨h, h'⟩
      · rename_i hc
        refine clos_isSome r _ ?_
        rcases h with h | ⟨h, h'⟩
        · exact .inl h
        · rcases List.mem_cons.mp h with e | h
          · cases e; rw [hc] at h'; cases h'
          · exact .inr ⟨h, h'⟩
    · rename_i hk
      refine clos_isSome r _ ?_
      rcases h with h | ⟨h, h'⟩
      · exact .inl h
      · rcases List.mem_cons.mp h with e | h
        · cases e; simp at hk
        · exact .inr ⟨h, h'⟩
theorem lookup_relabel {env : Env} (hk : env.scope.kind = .function) : ∀ {names : List (Str × NameKind)} {x : Str} {k : NameKind}, names.lookup x = some k →
    (names.map fun (n, k) => if (k == NameKind.free && env.scope.kind == .function && env.kindOf n == some .cell) then (n, NameKind.cell) else (n, k)).lookup x =
      some (if (k == NameKind.free && env.kindOf x == some .cell) then NameKind.cell else k)
  | [], _, _, h => by simp at h
  | (n, k') :: r, x, k, h => by
    have ih := @lookup_relabel env hk r x k
    show List.lookup x ((if (k' == NameKind.free && env.scope.kind == .function && env.kindOf n == some .cell) = true then (n, NameKind.cell) else (n, k')) :: _) = _
    cases hx : x == n with
    | true =>
      simp only [List.lookup_cons, hx] at h
      cases h
      have hxn := beq_iff_eq.mp hx
      subst hxn
      rw [hk]
      by_cases hc : (k' == NameKind.free && env.kindOf x == some .cell) = true
      · have : (k' == NameKind.free && ScopeKind.function == ScopeKind.function && env.kindOf x == some .cell) = true := by simpa using hc
        rw [if_pos this, if_pos hc]; simp
      · have : ¬ (k' == NameKind.free && ScopeKind.function == ScopeKind.function && env.kindOf x == some .cell) = true := by simpa using hc
        rw [if_neg this, if_neg hc]; simp
    | false =>
      simp only [List.lookup_cons, hx] at h
      by_cases hc : (k' == NameKind.free && env.scope.kind == .function && env.kindOf n == some .cell) = true
      · rw [if_pos hc]; simp only [List.lookup_cons, hx]; exact ih h
      · rw [if_neg hc]; simp only [List.lookup_cons, hx]; exact ih h
theorem mem_lookup {α : Type} : ∀ {l : List (Str × α)} {n : Str} {c : α}, l.lookup n = some c → (n, c) ∈ l := fun h => mem_of_lookup h
structure CompOk (sc : Kinds) (scope : Scope) (x : Str) : Prop where
  kind : scope.kind = .function
  loc : scope.names.lookup x = some .local
  nocell : ∀ y ∈ scope.names, y.2 ≠ .cell
  names : ∀ y ∈ scope.names, y.2 = .local → scope.names.lookup y.1 = some .local
  free : ∀ y ∈ scope.names, y.2 = .free → sc y.1 = some .cell ∨ sc y.1 = some .free
  debug : scope.names.lookup ("__debug__" : Str) = none
  classdict : scope.names.lookup ("__classdict__" : Str) = none
theorem compOk_of {sc : Kinds} {scope : Scope} {x : Str} (h : compOkB sc scope x = true) : CompOk sc scope x := by
  unfold compOkB at h
  simp only [Bool.and_eq_true, beq_iff_eq, List.all_eq_true, bne_iff_ne, ne_eq, Bool.or_eq_true, Option.isNone_iff_eq_none] at h
  obtain ⟨⟨⟨⟨h1, h2⟩, h3⟩, h4⟩, h5⟩ := h
  refine ⟨h1, h2, fun y hy => (h3 y hy).1.1, fun y hy hl => ((h3 y hy).1.2).resolve_left (fun q => q hl), fun y hy hf => ?_, h4, h5⟩
  rcases (h3 y hy).2 with (q | q) | q
  · exact absurd hf q
  · exact .inl q
  · exact .inr q
section
variable {X : Cx} {env : Env} {sc : Kinds} {m : Loc} {σ : Store} {ρ : Nat → Addr} {h h' : Heap} {scope : Scope} {x : Str}
theorem Frm.closure (F : Frm X env sc m σ.length ρ h) (ok : CompOk sc scope x) : closureFor scope env = pure (clos env.cells scope.names []) :=
  closureFor_eq fun y hy hf => let ⟨c, _, h1, _⟩ := F.cells y.1 ((ok.free y hy hf)); ⟨c, h1⟩
theorem clos_sub {cells : List (Str × Addr)} {names : List (Str × NameKind)} {n : Str} {c : Addr} (e : (clos cells names []).lookup n = some c) : cells.lookup n = some c :=
  clos_lookup names [] (fun _ _ q => by simp at q) n c e
theorem Frm.comp (F : Frm X env sc m σ.length ρ h) (ok : CompOk sc scope x) {C : Addr} (hns : h.Ns C fun _ => none) (hC : X.B.get? C = none) (hsep : ∀ i, i < σ.length → ρ i ≠ C) :
    Frm X (compEnvC scope (clos env.cells scope.names []) C env) (kindsOf scope.names) (compLoc scope.names m) σ.length ρ h where
  kind := ok.kind
  glob := F.glob
  bi := F.bi
  kinds := {
    loc := fun y hy => lookup_relabel_local hy
    cell := fun y hy => absurd rfl (ok.nocell _ (mem_lookup hy))
    free := fun y hy => by
      have := lookup_relabel (env := env) F.kind hy
      show (relabel scope env).names.lookup y = some .cell ∨ (relabel scope env).names.lookup y = some .free
      unfold relabel
      simp only
      rw [this]
      split
      · exact .inl rfl
      · exact .inr rfl
    glob := fun y hy => by
      have := lookup_relabel (env := env) F.kind hy
      show (relabel scope env).names.lookup y = _
      unfold relabel
      simp only
      rw [this]; rfl
    debug := ok.debug
    classdict := ok.classdict }
  ns := ⟨_, hns, fun y v hy hv => by
    unfold compLoc at hv
    have hy' : scope.names.lookup y = some .local := hy
    rw [hy'] at hv; cases hv⟩
  cells := fun y hy => by
    have hf : scope.names.lookup y = some .free := by
      rcases hy with q | q
      · exact absurd rfl (ok.nocell _ (mem_lookup q))
      · exact q
    obtain ⟨c, ov, h1, h2, h3⟩ := F.cells y (ok.free _ (mem_lookup hf) rfl)
    have hs := clos_isSome (cells := env.cells) (n := y) scope.names [] (.inr ⟨mem_lookup hf, by rw [h1]; rfl⟩)
    obtain ⟨c', hc'⟩ := Option.isSome_iff_exists.mp hs
    have := clos_sub hc'
    rw [h1] at this; cases this
    refine ⟨c, ov, hc', h2, fun v hv => h3 v ?_⟩
    unfold compLoc at hv
    rw [hf] at hv; exact hv
  isCells := fun y c hy => F.isCells y c (clos_sub hy)
  sepL := hsep
  newL := hC
  newC := fun y c hy => F.newC y c (clos_sub hy)
  apart := fun y z c hy hz => F.apart y z c (clos_sub hy) (clos_sub hz)
end
end Mine

set_option Elab.async false
set_option autoImplicit false
set_option linter.unusedVariables false
namespace Mine
open PySem PySem.Spec PySem.Calls PyProof.Rows
section
variable {X : Cx} {σ σ' : Store} {ρ ρ' : Nat → Addr} {h h' h'' : Heap} {env : Env} {sc : Kinds} {m : Loc} {W : Addr → Prop}
theorem Rep.grow (R : Rep X ρ σ h) (hk : ∀ b o, h.get? b = some o → h'.get? b = some o) : Rep X ρ σ h' where
  base := fun b o e => hk _ _ (R.base b o e)
  cell := fun i c hc => let ⟨oc, its, hp, sh, ha⟩ := R.cell i c hc; ⟨oc, its, hk _ _ hp, sh, ha.mono (Nat.le_refl _) (fun _ _ => rfl) fun b o e _ => hk b o e⟩
  own := R.own
  inj := R.inj
  bad := R.badKeep fun b o e _ => hk b o e
theorem Go.ofGrow (hz : h.objs.size ≤ h'.objs.size) (hk : ∀ b o, h.get? b = some o → h'.get? b = some o) : Go W σ ρ h σ ρ h' :=
  ⟨hz, fun b o e _ _ => ⟨o.slots, hk b o e, fun _ => rfl⟩, fun b o es n e d => ⟨o, es, n, hk _ _ e, d⟩, Nat.le_refl _, fun _ _ => rfl, fun i h1 h2 => absurd h2 (Nat.not_lt.mpr h1)⟩
theorem foldedSet_no {e : Expr} (h : noSet e = true) (v : Value) : foldedSetIterable e env v = pure v := by
  unfold foldedSetIterable
  split
  · exact absurd h (by simp [noSet])
  · rfl
end
section
variable {X : Cx} {k : Nat} {env : Env} {sc : Kinds} {m : Loc} {σ : Store} {K : OutE → Prop} {A : Around} {s : Shared} {ρ : Nat → Addr} {E : Value → Shared → Prop}
noncomputable def SIfs (X : Cx) (k : Nat) (env : Env) (sc : Kinds) (ifs : List Expr) (m : Loc) (σ : Store) (f : Bool → Store → Prop) : Prop :=
  match ifs with
  | [] => f true σ
  | [e] => ST X k env sc (isTrue e env (eval e env)) m σ (fun _ => False) f
  | _ => False
theorem ifs_sound {ifs : List Expr} {f : Bool → Store → Prop} {Q : Bool → Shared → Prop} (hw : SIfs X k env sc ifs m σ f)
    (ar : Ar X k A env s.heap) (R : Rep X ρ σ s.heap) (F : Frm X env sc m σ.length ρ s.heap)
    (h : ∀ b σ' ρ' h' tk, f b σ' → Rep X ρ' σ' h' → Go Nowhere σ ρ s.heap σ' ρ' h' → Ar X k A env h' → Frm X env sc m σ'.length ρ' h' → Q b { s with heap := h', toks := tk }) :
    wpAny (model X.prog X.w) A (forIn ifs true fun c r => if r = true then do let ok ← isTrue c env (eval c env); pure (ForInStep.yield ok) else pure (ForInStep.yield r)) Q E s := by
  match ifs, hw with
  | [], hw => exact wpAny_tests_nil (h true σ ρ s.heap s.toks hw R (.refl ..) ar F)
  | [e], hw => exact wpAny_tests_one ((hw : ST X k env sc _ m σ _ f) A s ρ Q E ar R F h fun _ _ _ _ _ _ hK => hK.elim)
  | _ :: _ :: _, hw => exact (hw : False).elim
theorem comp_core {elt iter : Expr} {x : Str} {px pos pos' : Pos} {ifs : List Expr} {scope : Scope} {use : Option (Value → Sem Unit)} {Q : Value → Shared → Prop}
    (hroom : 100 ≤ k) (ok : CompOk sc scope x) (hset : noSet iter = true)
    (hw : SE X k env sc (eval iter env) m σ (thenE K fun src σ => ∃ (N : Nat) (I : Nat → List V → Store → Prop), N ≤ 1000000 ∧ I 0 [] σ ∧
          (∀ j acc σ, j < N → I j acc σ → ∃ v, srcNext σ src j = some (some v) ∧ acc.length ≤ j ∧ ∀ env',
            SIfs X k env' (kindsOf scope.names) ifs (upd (compLoc scope.names m) x v) σ fun b σ => if b then SE X k env' (kindsOf scope.names) (eval elt env') (upd (compLoc scope.names m) x v) σ (noExn fun w σ => I (j + 1) (acc ++ [w]) σ) else I (j + 1) acc σ) ∧
          (∀ acc σ, I N acc σ → srcNext σ src N = some none ∧ K (.val (.ref σ.length) (σ ++ [.lst acc])))))
    (ar : Ar X k A env s.heap) (R : Rep X ρ σ s.heap) (F : Frm X env sc m σ.length ρ s.heap) (er : ErE X env.frame σ ρ s K E)
    (fin : ∀ acc σ' ρ' C h' tk mC, K (.val (.ref σ'.length) (σ' ++ [.lst acc])) → Rep X ρ' (σ' ++ [.lst acc]) h' → Go Nowhere σ ρ s.heap (σ' ++ [.lst acc]) ρ' h' → h'.Ns C mC → s.heap.objs.size ≤ C →
      (∀ i, i < (σ' ++ [Cell.lst acc]).length → ρ' i ≠ C) → X.B.get? C = none → compPost (model X.prog X.w) A E use Q (.ref (ρ' σ'.length)) C (.ok .next) { s with heap := h', toks := tk }) :
    wpAny (model X.prog X.w) A (comprehension (.ListComp elt [⟨.Name x px, iter, ifs, 0⟩] scope pos) scope env pos' (newList []) false (eval iter env) use) Q E s := by
  refine wpAny_comprehension_free rfl (fun v => foldedSet_no hset v) (F.closure ok) ok.kind ok.names ?_
  refine SE.andThen hw ar R F er fun src σ₁ ρ₁ a h₁ tk₁ hf R₁ g₁ hsrc ar₁ F₁ => ?_
  obtain ⟨N, I, hN, h0, hstep, hend⟩ := hf
  have hIs : IsSrc σ₁ src := by
    by_cases hN0 : 0 < N
    · obtain ⟨v, hv, _⟩ := hstep 0 [] σ₁ hN0 h0
      exact isSrc_of hv
    · have : N = 0 := by omega
      subst this
      exact isSrc_of (hend [] σ₁ h0).1
  have hso := srcOk_of hsrc
  refine iter_sound (s := { s with heap := h₁, toks := tk₁ }) hIs R₁ hsrc fun h₂ it₂ hpush => ?_
  obtain ⟨o₂, rfl⟩ := hpush
  refine wpAny_newObj_type (wpAny_newFunctionEnv ok.nocell (by intro y hy; simp at hy) (fun h₃ hns₃ hsb₃ => ?_) ok.kind)
  dsimp only at hns₃ hsb₃ ⊢
  generalize hIa : h₁.objs.size = Ia at *
  generalize hH2 : (h₁.push o₂).push { cls := .type "list", dict := none, data := .seq ([] : List Value).toArray } = H2 at hns₃ hsb₃ ⊢
  generalize hD : (h₁.push o₂).objs.size = D at *
  generalize hC : H2.objs.size = C at *
  have hD' : D = Ia + 1 := by rw [← hD, Heap.size_push, hIa]
  have hC' : C = Ia + 2 := by rw [← hC, ← hH2, Heap.size_push, Heap.size_push, hIa]
  have k₁₂ : ∀ b o, h₁.get? b = some o → H2.get? b = some o := fun b o e => by rw [← hH2]; exact Heap.get?_push_of_some _ (Heap.get?_push_of_some _ e)
  have keep₃ : ∀ b o, H2.get? b = some o → h₃.get? b = some o := fun b o e => hsb₃.extBut b o (Nat.ne_of_lt (hC ▸ Heap.lt_size e)) (Heap.get?_push_of_some _ e)
  have keep₁₃ : ∀ b o, h₁.get? b = some o → h₃.get? b = some o := fun b o e => keep₃ b o (k₁₂ b o e)
  have hz₃ : h₁.objs.size ≤ h₃.objs.size := by
    have e1 := hsb₃.1
    rw [Heap.size_push, hC] at e1
    rw [e1, hIa, hC']
    exact Nat.le_add_right _ 3
  have R₃ : Rep X ρ₁ σ₁ h₃ := R₁.grow keep₁₃
  have g₃ : Go (· = C) σ₁ ρ₁ h₁ σ₁ ρ₁ h₃ := .ofGrow hz₃ keep₁₃
  have F₁₃ : Frm X env sc m σ₁.length ρ₁ h₃ := F₁.go R₁ (.ofGrow hz₃ keep₁₃)
  have hlt₁ : ∀ i, i < σ₁.length → ρ₁ i < Ia := fun i hi => hIa ▸ R₁.lt hi
  have hbase : ∀ a, Ia ≤ a → X.B.get? a = none := fun a ha => by
    cases e : X.B.get? a with
    | none => rfl
    | some o => exact absurd (Heap.lt_size (R₁.base _ _ e)) (Nat.not_lt.mpr (hIa ▸ ha))
  have hns₃' : h₃.Ns C fun _ => none := by simpa using hns₃
  have F₃ := F₁₃.comp ok hns₃' (hbase C (by rw [hC']; exact Nat.le_add_right _ _)) fun i hi => Nat.ne_of_lt (Nat.lt_of_lt_of_le (hlt₁ i hi) (by rw [hC']; exact Nat.le_add_right _ _))
  have ar₃ : Ar X k A (compEnvC scope (clos env.cells scope.names []) C env) h₃ := (ar₁.go (.ofGrow (W := Nowhere) (σ := σ₁) (ρ := ρ₁) hz₃ keep₁₃)).reframe rfl
  have it₃ : IterAt X.bad ρ₁ h₃ Ia 0 src := it₂.mono hso (fun _ _ => rfl) (fun o e _ => keep₃ _ _ (by rw [← hH2]; exact Heap.get?_push_of_some _ e)) fun b o e _ => keep₃ _ _ (by rw [← hH2]; exact Heap.get?_push_of_some _ e)
  have hD₃ : h₃.get? D = some { cls := .type "list", data := .seq ([] : List Value).toArray 0 } := keep₃ _ _ (by rw [← hH2, ← hD]; exact Heap.get?_push_size _ rfl)
  have loop : ∀ s₃ : Shared, s₃ = { s with heap := h₃, toks := tk₁ } →
      codeAny (model X.prog X.w) A (.compLoop (.ListComp elt [⟨.Name x px, iter, ifs, 0⟩] scope pos) 0 (.ref Ia) (.ref D) (compEnvC scope (clos env.cells scope.names []) C env))
        (compPost (model X.prog X.w) A E use Q (.ref D) C) s₃ := by
    rintro s₃ rfl
    refine codeAny_compLoop_tests (fun c s' => ∃ kk acc σ' ρ' h' tk mm items nD, s' = { s with heap := h', toks := tk } ∧ kk ≤ N ∧ c = N + 1 - kk ∧ I kk acc σ' ∧ Rep X ρ' σ' h' ∧ Go (· = C) σ₁ ρ₁ h₁ σ' ρ' h' ∧
        Frm X (compEnvC scope (clos env.cells scope.names []) C env) (kindsOf scope.names) mm σ'.length ρ' h' ∧ (∀ v, upd mm x v = upd (compLoc scope.names m) x v) ∧ IterAt X.bad ρ' h' Ia kk src ∧
        h'.get? D = some { cls := .type "list", data := .seq (List.toArray items) nD } ∧ HasAll X σ'.length ρ' h' acc items ∧ (∀ i, i < σ'.length → ρ' i ≠ D) ∧ Ar X k A (compEnvC scope (clos env.cells scope.names []) C env) h')
      ?_ (N + 1) ⟨0, [], σ₁, ρ₁, h₃, tk₁, _, [], 0, rfl, Nat.zero_le _, rfl, h0, R₃, g₃, F₃, fun _ => rfl, it₃, hD₃, .nil, fun i hi => Nat.ne_of_lt (Nat.lt_of_lt_of_le (hlt₁ i hi) (by rw [hD']; exact Nat.le_succ _)), ar₃⟩
    rintro c s' ⟨kk, acc, σ', ρ', h', tk, mm, items, nD, rfl, hkk, rfl, hI, R', g', F', hmm, it', hDo, hall, hsepD, ar'⟩
    have hso' : SrcOk σ'.length src := by
      cases src <;> first | exact trivial | exact Nat.lt_of_lt_of_le hso g'.len
    obtain ⟨oI, eI, hoI⟩ := it'.obj
    have hIaB : X.B.get? Ia = none := hbase Ia (Nat.le_refl _)
    have hDI : D ≠ Ia := by rw [hD']; exact Nat.succ_ne_self _
    have hDC : D ≠ C := by rw [hD', hC']; exact Nat.ne_of_lt (Nat.lt_succ_self _)
    by_cases hlt : kk < N
    · obtain ⟨v, hnx, hlen, hbody⟩ := hstep kk acc σ' hlt hI
      refine next_sound (s := { s with heap := h', toks := tk }) (ar'.handled hroom) R' it' hso' hnx ?_ ?_
      · rintro v' a h₄ tk₄ hv' hhas it₄ ex
        cases hv'
        have R₄ := R'.ext1 ex eI hoI hIaB
        have F₄ := F'.ext1 ex eI hoI
        have ar₄ := ar'.ext1 ex eI hoI
        have g₄ := g'.ext1 ex (Nat.le_of_eq hIa)
        have hall₄ : HasAll X σ'.length ρ' h₄ acc items := hall.mono (Nat.le_refl _) (fun _ _ => rfl) (ex.still eI hoI)
        have hD₄ := ex.keep _ _ hDI hDo
        refine wpAny_assign_Name (storeLocal_sound (s := { s with heap := h₄, toks := tk₄ }) R₄ F₄ ok.loc hhas fun h₅ tk₅ R₅ g₅ F₅ hsb₅ => ?_)
        rw [hmm] at F₅
        have wC : WOk (· = C) h₄ := fun b o hb e => by
          obtain ⟨_, ⟨o', es, ep, e', d, _⟩, _⟩ := F₄.ns
          have e'' : h₄.get? C = some o' := e'
          rw [← hb, e] at e''; cases e''
          exact .inl ⟨es, ep, d⟩
        have ar₅ := ar₄.go g₅
        have it₅ := it₄.go hso' R₄ g₅ wC
        have hall₅ := hall₄.go R₄ g₅ wC
        have hD₅ : h₅.get? D = some { cls := .type "list", data := .seq (List.toArray items) nD } := (hsb₅.2 D hDC).trans hD₄
        have G₅ := g₄.trans g₅
        refine ifs_sound (s := { s with heap := h₅, toks := tk₅ }) (hbody _) ar₅ R₅ F₅ fun b σ₆ ρ₆ h₆ tk₆ hb R₆ g₆ ar₆ F₆ => ?_
        have hkD : ∀ {σ₀ : Store} {ρ₀ : Nat → Addr} {ha hb : Heap} {σ₁' : Store} {ρ₁' : Nat → Addr}, Go Nowhere σ₀ ρ₀ ha σ₁' ρ₁' hb → (∀ i, i < σ₀.length → ρ₀ i ≠ D) → ha.get? D = some { cls := .type "list", data := .seq (List.toArray items) nD } →
            hb.get? D = some { cls := .type "list", data := .seq (List.toArray items) nD } ∧ ∀ i, i < σ₁'.length → ρ₁' i ≠ D := fun {σ₀ ρ₀ ha hb σ₁' ρ₁'} g hs e => by
          obtain ⟨sl, e1, f1⟩ := g.keep D _ e (fun q => q) fun i hi q => hs i hi q.symm
          rw [f1 (fun es n q => (nomatch q))] at e1
          refine ⟨e1, fun i hi => ?_⟩
          by_cases hl : i < σ₀.length
          · rw [g.ext i hl]; exact hs i hl
          · exact Nat.ne_of_gt (Nat.lt_of_lt_of_le (Heap.lt_size e) (g.new i (Nat.not_lt.mp hl) hi))
        obtain ⟨hD₆, hsep₆⟩ := hkD g₆ hsepD hD₅
        have hall₆ := hall₅.go R₅ g₆ .nowhere
        have it₆ := it₅.go hso' R₅ g₆ .nowhere
        have hso₆ : SrcOk σ₆.length src := by
          cases src <;> first | exact trivial | exact Nat.lt_of_lt_of_le hso' g₆.len
        have G₆ := G₅.trans (g₆.weaken fun _ _ _ q => q.elim)
        cases b with
        | false =>
          simp only [Bool.false_eq_true, if_false] at hb ⊢
          exact ⟨N + 1 - (kk + 1), by omega, kk + 1, acc, σ₆, ρ₆, h₆, tk₆, _, items, nD, rfl, hlt, rfl, hb, R₆, G₆, F₆, fun w => upd_upd _ _ _ _, it₆, hD₆, hall₆, hsep₆, ar₆⟩
        | true =>
          simp only [if_true] at hb ⊢
          refine hb A { s with heap := h₆, toks := tk₆ } ρ₆ _ _ ar₆ R₆ F₆ (fun w σ₇ ρ₇ y h₇ tk₇ hI₇ R₇ g₇ hw₇ => ?_) fun _ _ _ _ _ _ hK => hK.elim
          obtain ⟨hD₇, hsep₇⟩ := hkD g₇ hsep₆ hD₆
          have hall₇ := hall₆.go R₆ g₇ .nowhere
          have it₇ := it₆.go hso₆ R₆ g₇ .nowhere
          have ar₇ := ar₆.go g₇
          have F₇ := F₆.go R₆ g₇
          have G₇ := G₆.trans (g₇.weaken fun _ _ _ q => q.elim)
          have hsz : (List.toArray items).size ≤ sizeLine := by
            have := hall.length
            rw [sizeLine_eq, List.size_toArray]; omega
          refine wpAny_list_append_plain (s := { s with heap := h₇, toks := tk₇ }) ⟨nD, hD₇⟩ (fun h₈ hp₈ hsb₈ => ?_) hsz
          obtain ⟨n₈, hD₈⟩ := hp₈
          have ex₈ := Ext1.ofSame hsb₈
          have hnS : ∀ o, h₇.get? D = some o → ¬ Still o ∧ NoDict o ∧ ∀ v, o.data ≠ .cell v := fun o e => by
            rw [hD₇] at e; cases e
            exact ⟨Still.notList rfl, (fun _ _ q => nomatch q), (fun _ q => nomatch q)⟩
          have hDB : X.B.get? D = none := hbase D (by rw [hD']; exact Nat.le_succ _)
          have R₈ := R₇.but ex₈ (fun o e => (hnS o e).1) hsep₇ hDB
          have st₈ := ex₈.still' fun o e => (hnS o e).1
          refine ⟨N + 1 - (kk + 1), by omega, kk + 1, acc ++ [w], σ₇, ρ₇, h₈, tk₇, _, items ++ [y], n₈, rfl, hlt, rfl, hI₇, R₈, G₇.ext1 ex₈ (by rw [hD', hIa]; exact Nat.le_succ _), F₇.but ex₈ hnS, fun w => upd_upd _ _ _ _,
            it₇.mono (n := σ₇.length) (by cases src <;> first | exact trivial | exact Nat.lt_of_lt_of_le hso₆ g₇.len) (fun _ _ => rfl) (fun o e _ => ex₈.keep _ _ (Ne.symm hDI) e) st₈, by simpa using hD₈,
            (hall₇.append (.one hw₇)).mono (Nat.le_refl _) (fun _ _ => rfl) st₈, hsep₇, ar₇.but ex₈ fun o e => (hnS o e).2.1⟩
      · intro h₄ tk₄ hr; cases hr
    · have hkN : kk = N := by omega
      subst hkN
      obtain ⟨hnx, hK⟩ := hend acc σ' hI
      refine next_sound (s := { s with heap := h', toks := tk }) (ar'.handled hroom) R' it' hso' hnx (fun _ _ _ _ hr => by cases hr) fun h₄ tk₄ _ ex => ?_
      have R₄ := R'.ext1 ex eI hoI hIaB
      have hall₄ : HasAll X σ'.length ρ' h₄ acc items := hall.mono (Nat.le_refl _) (fun _ _ => rfl) (ex.still eI hoI)
      have hD₄ := ex.keep _ _ hDI hDo
      have g₄ := g'.ext1 ex (Nat.le_of_eq hIa)
      have F₄ := F'.ext1 ex eI hoI
      obtain ⟨mC, hnsC, _⟩ := F₄.ns
      have hDB : X.B.get? D = none := hbase D (by rw [hD']; exact Nat.le_succ _)
      obtain ⟨ρa, Ra, hρa, hDa⟩ := R₄.adopt hD₄ hall₄ hsepD hDB
      have hszD : h₁.objs.size ≤ D := by rw [hD', hIa]; exact Nat.le_succ _
      have Ga : Go (· = C) σ₁ ρ₁ h₁ (σ' ++ [.lst acc]) ρa h₄ :=
        { size := g₄.size, keep := g₄.keep, dicts := g₄.dicts, len := Nat.le_trans g₄.len (by simp), ext := fun i hi => (hρa i (Nat.lt_of_lt_of_le hi g₄.len)).trans (g₄.ext i hi), new := fun i h1 h2 => by
            by_cases hl : i < σ'.length
            · rw [hρa i hl]; exact g₄.new i h1 hl
            · have : i = σ'.length := by simp at h2; omega
              subst this; rw [hDa]; exact hszD }
      have hCsz : h₁.objs.size ≤ C := by rw [hC', hIa]; exact Nat.le_add_right _ _
      have Ga' : Go Nowhere σ₁ ρ₁ h₁ (σ' ++ [.lst acc]) ρa h₄ := Ga.weaken fun b o e hb => absurd (hb ▸ Heap.lt_size e) (Nat.not_lt.mpr hCsz)
      have := fin acc σ' _ C h₄ tk₄ mC hK Ra (g₁.trans Ga') hnsC (Nat.le_trans g₁.size hCsz) (fun i hi => ?_) (hbase C (by rw [hC']; exact Nat.le_add_right _ _))
      · rw [hDa] at this; exact this
      · by_cases hl : i < σ'.length
        · rw [hρa i hl]; exact F'.sepL i hl
        · have : i = σ'.length := by simp at hi; omega
          subst this; rw [hDa]; exact hDC
  exact codeAny_compStart_list (loop _ rfl) (iterAgain_sound (s := { s with heap := h₃, toks := tk₁ }) it₃ (loop _ rfl))
end
end Mine

set_option Elab.async false
set_option autoImplicit false
set_option linter.unusedVariables false
namespace Mine
open PySem PySem.Spec PySem.Calls PyProof.Rows
noncomputable def Dx (e T : Addr) (N : Nat) : Addr → Prop := fun b => b = e ∨ b = T ∨ N ≤ b
noncomputable def DOk (D : Addr → Prop) (h : Heap) : Prop := ∀ b o, D b → h.get? b = some o → (∃ vs, o.data = .fields vs) ∧ o.cls ≠ .type "range" ∧ o.cls ≠ .type "list"
structure Fl (X : Cx) (D : Addr → Prop) (h h' : Heap) : Prop where
  size : h.objs.size ≤ h'.objs.size
  keep : ∀ b o, h.get? b = some o → ¬ D b → ∃ sl, h'.get? b = some { o with slots := sl } ∧ (NoDict o → sl = o.slots)
  turn : ∀ b o vs, D b → h.get? b = some o → o.data = .fields vs → ∃ o' vs', h'.get? b = some o' ∧ o'.cls = o.cls ∧ o'.data = .fields vs' ∧ o'.dict = o.dict
  base : ∀ b o, X.B.get? b = some o → ¬ D b → h.get? b = some o → h'.get? b = some o
section
variable {X : Cx} {D : Addr → Prop} {h h' h'' : Heap} {n : Nat} {ρ : Nat → Addr} {σ σ' : Store} {ρ' : Nat → Addr} {W : Addr → Prop}
theorem Fl.refl : Fl X D h h := ⟨Nat.le_refl _, fun b o e _ => ⟨o.slots, e, fun _ => rfl⟩, fun b o vs _ e d => ⟨o, vs, e, rfl, d, rfl⟩, fun _ _ _ _ e => e⟩
theorem Fl.trans (x : Fl X D h h') (y : Fl X D h' h'') : Fl X D h h'' where
  size := Nat.le_trans x.size y.size
  keep := fun b o e hb => by
    obtain ⟨sl, e1, f1⟩ := x.keep b o e hb
    obtain ⟨sl', e2, f2⟩ := y.keep b _ e1 hb
    refine ⟨sl', e2, fun hn => ?_⟩
    rw [f2 hn]; exact f1 hn
  turn := fun b o vs hb e d => by
    obtain ⟨o1, vs1, e1, c1, d1, t1⟩ := x.turn b o vs hb e d
    obtain ⟨o2, vs2, e2, c2, d2, t2⟩ := y.turn b o1 vs1 hb e1 d1
    exact ⟨o2, vs2, e2, c2.trans c1, d2, t2.trans t1⟩
  base := fun b o eb hb e => y.base b o eb hb (x.base b o eb hb e)
theorem Fl.exact (x : Fl X D h h') {b : Addr} {o : Obj} (e : h.get? b = some o) (hn : NoDict o) (hb : ¬ D b) : h'.get? b = some o := by
  obtain ⟨sl, e1, f1⟩ := x.keep b o e hb
  rw [f1 hn] at e1
  exact e1
theorem DOk.not (ok : DOk D h) {b : Addr} {o : Obj} (e : h.get? b = some o) (hd : ∀ vs, o.data ≠ .fields vs) : ¬ D b := fun q => by
  obtain ⟨⟨vs, d⟩, _⟩ := ok b o q e
  exact hd vs d
theorem Has.fl {v : V} {a : Value} (x : Has X n ρ h v a) (ok : DOk D h) (f : Fl X D h h') : Has X n ρ h' v a := by
  cases x with
  | d r => exact .d (r.to (fun _ _ _ q => q) fun b o e hc hs _ => by
      obtain ⟨vs, k, hd⟩ := hs
      exact f.exact e (fun es n q => by rw [hd] at q; cases q) (ok.not e fun vs q => by rw [hd] at q; cases q))
  | ref hi => exact .ref hi
  | @exc c C a o fs h1 h2 h3 h4 h5 =>
    by_cases hb : D a
    · obtain ⟨o', vs', e1, c1, d1, t1⟩ := f.turn _ _ _ hb h2 h4
      exact .exc h1 e1 (c1.trans h3) d1 (t1.trans h5)
    · exact .exc h1 (f.exact h2 (fun es n q => by rw [h4] at q; cases q) hb) h3 h4 h5
  | glob h1 => exact .glob h1
  | rng h1 h2 => exact .rng (f.exact h1 (fun es n q => by cases q) fun q => (ok _ _ q h1).2.1 rfl) h2
theorem HasAll.fl {vs : List V} {as : List Value} (x : HasAll X n ρ h vs as) (ok : DOk D h) (f : Fl X D h h') : HasAll X n ρ h' vs as := by
  induction x with
  | nil => exact .nil
  | cons h1 _ ih => exact .cons (h1.fl ok f) ih
theorem Rep.fl (R : Rep X ρ σ h) (ok : DOk D h) (f : Fl X D h h') (hb : ∀ b o, X.B.get? b = some o → ¬ D b) : Rep X ρ σ h' where
  base := fun b o e => f.base b o e (hb b o e) (R.base b o e)
  cell := fun i c e => by
    obtain ⟨oc, items, hp, sh, ha⟩ := R.cell i c e
    have hnD : ¬ D (ρ i) := ok.not hp fun vs q => by rcases sh.is with ⟨_, _, _, d⟩ | ⟨_, _, _, d⟩ <;> (rw [d] at q; cases q)
    cases c with
    | dct => obtain ⟨sl, e1, _⟩ := f.keep _ _ hp hnD; exact ⟨_, items, e1, sh, ha.fl ok f⟩
    | lst xs => obtain ⟨k, rfl⟩ := sh; exact ⟨_, items, f.exact hp (fun es n q => by cases q) hnD, ⟨k, rfl⟩, ha.fl ok f⟩
    | rol xs => obtain ⟨k, rfl⟩ := sh; exact ⟨_, items, f.exact hp (fun es n q => by cases q) hnD, ⟨k, rfl⟩, ha.fl ok f⟩
  own := R.own
  inj := R.inj
  bad := fun b q => let ⟨o, vs, n, e, c, d⟩ := R.bad b q; ⟨o, vs, n, f.exact e (fun es n q => by rw [d] at q; cases q) (ok.not e fun vs q => by rw [d] at q; cases q), c, d⟩
theorem Go.fl (g : Go W σ ρ h σ' ρ' h') (f : Fl X D h' h'') (hD : ∀ b, D b → h.objs.size ≤ b) : Go W σ ρ h σ' ρ' h'' where
  size := Nat.le_trans g.size f.size
  keep := fun b o e hw hc => by
    have hb : ¬ D b := fun q => absurd (Heap.lt_size e) (Nat.not_lt.mpr (hD b q))
    obtain ⟨sl, e1, f1⟩ := g.keep b o e hw hc
    obtain ⟨sl', e2, f2⟩ := f.keep b _ e1 hb
    refine ⟨sl', e2, fun hn => ?_⟩
    rw [f2 hn]; exact f1 hn
  dicts := fun b o es n e d => by
    have hb : ¬ D b := fun q => absurd (Heap.lt_size e) (Nat.not_lt.mpr (hD b q))
    obtain ⟨o', es', n', e1, d1⟩ := g.dicts b o es n e d
    obtain ⟨sl', e2, _⟩ := f.keep b _ e1 hb
    exact ⟨_, es', n', e2, d1⟩
  len := g.len
  ext := g.ext
  new := g.new
theorem Frm.fl {env : Env} {sc : Kinds} {m : Loc} (F : Frm X env sc m n ρ h) (ok : DOk D h) (f : Fl X D h h') : Frm X env sc m n ρ h' := by
  have hc : ∀ c ov, h.IsCell c ov → h'.IsCell c ov := fun c ov ⟨o, e, d⟩ => by
    obtain ⟨sl, e1, _⟩ := f.keep c o e (ok.not e fun vs q => by rw [d] at q; cases q)
    exact ⟨_, e1, d⟩
  refine { F with ns := ?_, cells := ?_, isCells := ?_ }
  · obtain ⟨mm, ⟨o, es, ep, e, d, r⟩, hm⟩ := F.ns
    obtain ⟨sl, e1, _⟩ := f.keep _ o e (ok.not e fun vs q => by rw [d] at q; cases q)
    exact ⟨mm, ⟨_, es, ep, e1, d, r⟩, fun x v h1 h2 => let ⟨a, h3, h4⟩ := hm x v h1 h2; ⟨a, h3, h4.fl ok f⟩⟩
  · intro x hx
    obtain ⟨c, ov, h1, h2, h3⟩ := F.cells x hx
    exact ⟨c, ov, h1, hc c ov h2, fun v hv => let ⟨a, h4, h5⟩ := h3 v hv; ⟨a, h4, h5.fl ok f⟩⟩
  · intro x c hx
    obtain ⟨ov, h1⟩ := F.isCells x c hx
    exact ⟨ov, hc c ov h1⟩
theorem Frames.fl {l : List Env} (F : Frames X h l) (ok : DOk D h) (f : Fl X D h h') : Frames X h' l := by
  intro env he
  obtain ⟨h1, L, o, es, k, h2, h3, h4, h5⟩ := F env he
  obtain ⟨sl, e1, _⟩ := f.keep L o h4 (ok.not h4 fun vs q => by rw [h5] at q; cases q)
  exact ⟨h1, L, _, es, k, h2, h3, e1, h5⟩
theorem Ar.fl {k : Nat} {A : Around} {env : Env} (a : Ar X k A env h) (ok : DOk D h) (f : Fl X D h h') : Ar X k A env h' :=
  { a with stack := let ⟨fe, o, h1, h2, h3⟩ := a.stack; ⟨fe, o, h1, h2, h3.fl ok f⟩ }
theorem Frames.fun {l : List Env} (F : Frames X h l) : h.FunFrames X.B l := by
  induction l with
  | nil => trivial
  | cons env r ih =>
    obtain ⟨h1, L, o, es, k, h2, h3, h4, h5⟩ := F env List.mem_cons_self
    exact ⟨h1, ⟨L, o, h2, h3, h4, fun vs q => by rw [h5] at q; cases q⟩, ih fun e he => F e (List.mem_cons_of_mem _ he)⟩
theorem dict_mapFields (o : Obj) (f : Array Value → Array Value) : (o.mapFields f).dict = o.dict := by
  obtain ⟨a, b, c, d⟩ := o
  cases c <;> rfl
theorem Fl.set {e : Addr} {oe : Obj} {vs : Array Value} (De : D e) (he : h.get? e = some oe) (hd : oe.data = .fields vs) (f : Array Value → Array Value) : Fl X D h (h.update e (Obj.mapFields f)) := by
  have other : ∀ b, b ≠ e → (h.update e (Obj.mapFields f)).get? b = h.get? b := fun b hb => Heap.get?_update_other _ _ (Ne.symm hb)
  have self : (h.update e (Obj.mapFields f)).get? e = some (oe.mapFields f) := Heap.get?_update_self _ he (Obj.isFreed_of_fields (Obj.data_mapFields hd f))
  refine ⟨Nat.le_of_eq (Heap.size_after_update ..).symm, fun b o eb hb => ⟨o.slots, ?_, fun _ => rfl⟩, fun b o ws hb eb hw => ?_, fun b o _ hb eb => ?_⟩
  · rw [other b fun q => hb (q ▸ De)]; exact eb
  · by_cases q : b = e
    · subst q
      rw [he] at eb; cases eb
      exact ⟨_, _, self, Obj.cls_mapFields _ _, Obj.data_mapFields hd f, dict_mapFields _ _⟩
    · exact ⟨o, ws, (other b q).trans eb, rfl, hw, rfl⟩
  · rw [other b fun q => hb (q ▸ De)]; exact eb
theorem Fl.push (o : Obj) (hN : D h.objs.size) : Fl X D h (h.push o) :=
  ⟨by rw [Heap.size_push]; exact Nat.le_succ _, fun b o' e _ => ⟨o'.slots, Heap.get?_push_of_some _ e, fun _ => rfl⟩, fun b o' vs _ e d => ⟨o', vs, Heap.get?_push_of_some _ e, rfl, d, rfl⟩, fun b o' _ _ e => Heap.get?_push_of_some _ e⟩
theorem Fl.slots {l : List Env} (F : Frames X h l) (ok : DOk D h) (q : Heap.SlotsOnly (l.filterMap (·.frame)) h h') : Fl X D h h' := by
  have dict : ∀ b, b ∈ l.filterMap (·.frame) → X.B.get? b = none ∧ ∃ o es k, h.get? b = some o ∧ o.data = .dict es k := fun b hb => by
    obtain ⟨env, he, hf⟩ := List.mem_filterMap.mp hb
    obtain ⟨h1, L, o, es, k, h2, h3, h4, h5⟩ := F env he
    rw [h2] at hf; cases hf
    exact ⟨h3, o, es, k, h4, h5⟩
  refine ⟨Nat.le_of_eq q.1.symm, fun b o e _ => ?_, fun b o vs _ e d => ?_, fun b o eb _ e => ?_⟩
  · by_cases hb : b ∈ l.filterMap (·.frame)
    · obtain ⟨_, o', es, k, e', d'⟩ := dict b hb
      rw [e] at e'; cases e'
      obtain ⟨sl, e1⟩ := q.2.2 b o e
      exact ⟨sl, e1, fun hn => absurd d' (hn es k)⟩
    · exact ⟨o.slots, (q.2.1 b hb).trans e, fun _ => rfl⟩
  · have hb : b ∉ l.filterMap (·.frame) := fun hb => by
      obtain ⟨_, o', es, k, e', d'⟩ := dict b hb
      rw [e] at e'; cases e'
      rw [d] at d'; cases d'
    exact ⟨o, vs, (q.2.1 b hb).trans e, rfl, d, rfl⟩
  · have hb : b ∉ l.filterMap (·.frame) := fun hb => by
      rw [(dict b hb).1] at eb; cases eb
    exact (q.2.1 b hb).trans e
end
end Mine

set_option Elab.async false
set_option autoImplicit false
set_option linter.unusedVariables false
namespace Mine
open PySem PySem.Spec PySem.Calls PyProof.Rows
structure FliesT (X : Cx) (c : Str) (sz : Nat) (e : Addr) (fl : Value) (h : Heap) : Prop where
  ex : ∃ C oe vs T oT ts, X.mg c = some (.ref C) ∧ h.get? e = some oe ∧ oe.cls = .ref C ∧ (oe.data = .fields vs ∧ oe.dict = none) ∧ vs[1]? = some (.ref T) ∧ T ≠ e ∧ sz ≤ T ∧ h.get? T = some oT ∧ oT.data = .fields ts ∧ oT.cls = .type "traceback" ∧ ts[3]? = some fl
  new : sz ≤ e
theorem FliesT.flies {X : Cx} {c : Str} {sz : Nat} {e L : Addr} {h : Heap} (x : FliesT X c sz e (rawInt L) h) : Flies X c (some L) sz e h := by
  obtain ⟨⟨C, oe, vs, T, oT, ts, h1, h2, h3, h4, h5, h6, h7, h8, h9, h10, h11⟩, hn⟩ := x
  exact ⟨⟨C, oe, vs, h1, h2, h3, h4, (Array.getElem?_eq_some_iff.mp h5).1, .inr ⟨T, oT, ts, h5, h6, h7, h8, h9, h10, (Array.getElem?_eq_some_iff.mp h11).1, .inr ⟨L, rfl, h11⟩⟩⟩, hn⟩
theorem FliesT.none {X : Cx} {c : Str} {sz : Nat} {e : Addr} {fr : Option Addr} {h : Heap} (x : FliesT X c sz e .none h) : Flies X c fr sz e h := by
  obtain ⟨⟨C, oe, vs, T, oT, ts, h1, h2, h3, h4, h5, h6, h7, h8, h9, h10, h11⟩, hn⟩ := x
  exact ⟨⟨C, oe, vs, h1, h2, h3, h4, (Array.getElem?_eq_some_iff.mp h5).1, .inr ⟨T, oT, ts, h5, h6, h7, h8, h9, h10, (Array.getElem?_eq_some_iff.mp h11).1, .inl h11⟩⟩, hn⟩
section
variable {X : Cx} {k : Nat} {A : Around} {env : Env} {s : Shared} {E : Value → Shared → Prop} {M : Model} {c : Str} {sz : Nat} {e L : Addr}
theorem frameOf_gen {fenv : Env} {outer : List Env} {base : Heap} {Q : Value → Shared → Prop} (hfr : A.frames = some (fenv :: outer)) (hfe : fenv.frame = env.frame) (hl : s.heap.FunFrames base (fenv :: outer)) (hf : env.frame = some L)
    (h : ∀ h', Heap.SlotsOnly ((fenv :: outer).filterMap (·.frame)) s.heap h' → Q (.ref L) { s with heap := h' }) : wpAny M A (PySem.frameOf env) Q E s := by
  unfold PySem.frameOf
  refine wpAny_bind (wpAny_frameEnvs hfr ?_)
  have hdw : ((fenv :: outer).dropWhile fun x => x.frame != env.frame) = fenv :: outer := by simp [List.dropWhile, hfe]
  rw [hdw]
  unfold frameObject
  refine wpAny_bind (wpAny_bind (wpAny_readyFrames_fun hl fun h₁ hs₁ => wpAny_pure ?_))
  rw [hfe, hf]
  exact wpAny_pure (h h₁ hs₁)
theorem entry_sound {D : Addr → Prop} {head : Value} {hadNext : Bool} {C : Addr} {oe : Obj} {vs : Array Value} {Q : Unit → Shared → Prop} (ar : Ar X k A env s.heap) (hf : env.frame = some L) (ok : DOk D s.heap) (De : D e) (DN : ∀ b, s.heap.objs.size ≤ b → D b)
    (hm : X.mg c = some (.ref C)) (he : s.heap.get? e = some oe) (hc : oe.cls = .ref C) (hd : oe.data = .fields vs) (hdd : oe.dict = none) (h1 : 1 < vs.size) (hsz : sz ≤ s.heap.objs.size) (hse : sz ≤ e)
    (hQ : ∀ h', Fl X D s.heap h' → FliesT X c sz e (rawInt L) h' → Q () { s with heap := h' }) :
    wpAny M A (do let a ← PySem.frameOf env; let pl ← entryPlaceOf L hadNext; let b ← EntryCells.newEntry head a .none (rawInt L) .none pl; setField (.ref e) 1 b) Q E s := by
  obtain ⟨fenv, outer, hfr, hfe, F⟩ := ar.stack
  refine wpAny_bind (frameOf_gen hfr hfe F.fun hf fun h₁ hs₁ => ?_)
  refine wpAny_bind (wpAny_entryPlaceOf fun pl hpl => ?_)
  unfold EntryCells.newEntry newFields
  refine wpAny_bind (wpAny_newObj_type ?_ (hpl.sizeOk5 _ _ _ _ _))
  have f₁ : Fl X D s.heap h₁ := .slots F ok hs₁
  have hz₁ : h₁.objs.size = s.heap.objs.size := hs₁.1
  have he₁ : h₁.get? e = some oe := by
    have hb : e ∉ (fenv :: outer).filterMap (·.frame) := fun hb => by
      obtain ⟨_, o, ho, hnf⟩ := F.fun.mem hb
      rw [he] at ho; cases ho; exact hnf vs hd
    exact (hs₁.2.1 e hb).trans he
  have he₂ := Heap.get?_push_of_some (h := h₁) { cls := .type "traceback", dict := none, data := .fields ([head, .ref L, .none, rawInt L, .none] ++ (if pl.isEmpty then List.replicate 6 Value.none else pl)).toArray } he₁
  have hTe : h₁.objs.size ≠ e := Nat.ne_of_gt (Heap.lt_size he₁)
  refine wpAny_setField he₂ hd h1 (hQ _ ((f₁.trans (.push _ (DN _ (Nat.le_of_eq hz₁.symm)))).trans (.set De he₂ hd _)) ?_)
  have hd₃ := Obj.data_mapFields hd (·.setIfInBounds 1 (Value.ref h₁.objs.size))
  refine ⟨⟨C, _, _, h₁.objs.size, _, _, hm, Heap.get?_update_self _ he₂ (Obj.isFreed_of_fields hd₃), (Obj.cls_mapFields _ _).trans hc, ⟨hd₃, (dict_mapFields _ _).trans hdd⟩, by simp [h1], hTe, by rw [hz₁]; exact hsz, (Heap.get?_update_other _ _ (Ne.symm hTe)).trans (Heap.get?_push_size h₁ rfl), rfl, rfl, ?_⟩, hse⟩
  simp
theorem note_sound {Q : Unit → Shared → Prop} (ar : Ar X k A env s.heap) (hf : env.frame = some L) (fl : Flies X c env.frame sz e s.heap) (hsz : sz ≤ s.heap.objs.size)
    (hQ : ∀ D h', DOk D s.heap → (∀ b, D b → sz ≤ b) → Fl X D s.heap h' → FliesT X c sz e (rawInt L) h' → Q () { s with heap := h' }) : wpAny M A (noteFrame (.ref e) env) Q E s := by
  obtain ⟨⟨C, oe, vs, hm, he, hc, ⟨hd, hdd⟩, h1, hT⟩, hse⟩ := fl
  have lt : ∀ {h : Heap} {b o}, h.get? b = some o → ¬ h.objs.size ≤ b := fun e => Nat.not_le.mpr (Heap.lt_size e)
  unfold noteFrame
  simp only [hf]
  rcases hT with hT | ⟨T, oT, ts, hT, hTe, hsT, eT, dT, cT, h3, hfl⟩
  · refine wpAny_bind (wpAny_field he hd hT ?_)
    rw [if_neg (by decide)]
    have ok : DOk (Dx e e s.heap.objs.size) s.heap := by
      rintro b o (rfl | rfl | q) eb
      · rw [he] at eb; cases eb; exact ⟨⟨vs, hd⟩, (by rw [hc]; exact fun q => nomatch q), (by rw [hc]; exact fun q => nomatch q)⟩
      · rw [he] at eb; cases eb; exact ⟨⟨vs, hd⟩, (by rw [hc]; exact fun q => nomatch q), (by rw [hc]; exact fun q => nomatch q)⟩
      · exact absurd q (lt eb)
    refine entry_sound (D := Dx e e s.heap.objs.size) ar hf ok (.inl rfl) (fun b hb => .inr (.inr hb)) hm he hc hd hdd h1 hsz hse fun h' f x => hQ _ h' ok ?_ f x
    rintro b (rfl | rfl | q)
    · exact hse
    · exact hse
    · exact Nat.le_trans hsz q
  · have ok : DOk (Dx e T s.heap.objs.size) s.heap := by
      rintro b o (rfl | rfl | q) eb
      · rw [he] at eb; cases eb; exact ⟨⟨vs, hd⟩, (by rw [hc]; exact fun q => nomatch q), (by rw [hc]; exact fun q => nomatch q)⟩
      · rw [eT] at eb; cases eb; exact ⟨⟨ts, dT⟩, by rw [cT]; decide, by rw [cT]; decide⟩
      · exact absurd q (lt eb)
    have hD : ∀ b, Dx e T s.heap.objs.size b → sz ≤ b := by
      rintro b (rfl | rfl | q)
      · exact hse
      · exact hsT
      · exact Nat.le_trans hsz q
    refine wpAny_bind (wpAny_field he hd hT ?_)
    rw [if_pos (show (Value.ref T != Value.none) = true from by simp)]
    rcases hfl with h3n | ⟨F, hF, h3F⟩
    · refine wpAny_bind (wpAny_field eT dT h3n ?_)
      rw [if_neg (show ¬ ((Value.none == rawInt L) = true) from by simp [rawInt])]
      refine wpAny_bind (wpAny_setField eT dT h3 ?_)
      have fs : Fl X (Dx e T s.heap.objs.size) s.heap (s.heap.update T (Obj.mapFields (·.setIfInBounds 3 Value.none))) := .set (.inr (.inl rfl)) eT dT _
      have hz : (s.heap.update T (Obj.mapFields (·.setIfInBounds 3 Value.none))).objs.size = s.heap.objs.size := Heap.size_after_update ..
      have ok' : DOk (Dx e T s.heap.objs.size) (s.heap.update T (Obj.mapFields (·.setIfInBounds 3 Value.none))) := by
        rintro b o hb eb
        by_cases q : b = T
        · subst q
          rw [Heap.get?_update_self _ eT (Obj.isFreed_of_fields (Obj.data_mapFields dT _))] at eb
          cases eb
          exact ⟨⟨_, Obj.data_mapFields dT _⟩, by rw [Obj.cls_mapFields, cT]; decide, by rw [Obj.cls_mapFields, cT]; decide⟩
        · rw [Heap.get?_update_other _ _ (Ne.symm q)] at eb
          exact ok b o hb eb
      refine entry_sound (s := { s with heap := s.heap.update T (Obj.mapFields (·.setIfInBounds 3 Value.none)) }) (D := Dx e T s.heap.objs.size) (ar.fl ok fs) hf ok' (.inl rfl) (fun b hb => .inr (.inr (by rw [← hz]; exact hb))) hm
        ((Heap.get?_update_other _ _ hTe).trans he) hc hd hdd h1 (by show sz ≤ _; rw [hz]; exact hsz) hse fun h' f x => hQ _ h' ok hD (fs.trans f) x
    · have hFL : F = L := by rw [hf] at hF; exact (Option.some.inj hF).symm
      subst hFL
      refine wpAny_bind (wpAny_field eT dT h3F ?_)
      rw [if_pos (by simp)]
      exact wpAny_pure (hQ _ s.heap ok hD .refl ⟨⟨C, oe, vs, T, oT, ts, hm, he, hc, ⟨hd, hdd⟩, hT, hTe, hsT, eT, dT, cT, h3F⟩, hse⟩)
theorem flight_sound {fl fl' : Value} {fr : Option Addr} {Q : Unit → Shared → Prop} (x : FliesT X c sz e fl s.heap) (hfl : fl' = fr.elim .none fun f => rawInt f)
    (hQ : ∀ D h', DOk D s.heap → (∀ b, D b → sz ≤ b) → Fl X D s.heap h' → FliesT X c sz e fl' h' → Q () { s with heap := h' }) : wpAny M A (setFlight (.ref e) fr) Q E s := by
  obtain ⟨⟨C, oe, vs, T, oT, ts, hm, he, hc, ⟨hd, hdd⟩, hT, hTe, hsT, eT, dT, cT, h3⟩, hse⟩ := x
  have h3' := (Array.getElem?_eq_some_iff.mp h3).1
  have ok : DOk (fun b => b = e ∨ b = T) s.heap := by
    rintro b o (rfl | rfl) eb
    · rw [he] at eb; cases eb; exact ⟨⟨vs, hd⟩, (by rw [hc]; exact fun q => nomatch q), (by rw [hc]; exact fun q => nomatch q)⟩
    · rw [eT] at eb; cases eb; exact ⟨⟨ts, dT⟩, by rw [cT]; decide, by rw [cT]; decide⟩
  have hD : ∀ b, (b = e ∨ b = T) → sz ≤ b := by
    rintro b (rfl | rfl)
    · exact hse
    · exact hsT
  unfold setFlight
  refine wpAny_bind (wpAny_field he hd hT ?_)
  rw [if_pos (show (Value.ref T != Value.none) = true from by simp)]
  refine wpAny_setField eT dT h3' (hQ _ _ ok hD (.set (.inr rfl) eT dT _) ?_)
  refine ⟨⟨C, oe, vs, T, _, _, hm, (Heap.get?_update_other _ _ hTe).trans he, hc, ⟨hd, hdd⟩, hT, hTe, hsT, Heap.get?_update_self _ eT (Obj.isFreed_of_fields (Obj.data_mapFields dT _)), Obj.data_mapFields dT _, (Obj.cls_mapFields _ _).trans cT, ?_⟩, hse⟩
  rw [hfl]
  simp [h3']
end
end Mine

set_option Elab.async false
set_option autoImplicit false
set_option linter.unusedVariables false
namespace Mine
open PySem PySem.Spec PySem.Calls PyProof.Rows
noncomputable def isLocB (sc : Kinds) (x : Str) : Bool := match sc x with
  | some .local | some .cell | some .free => true
  | _ => false
noncomputable def isGlobB (sc : Kinds) (x : Str) : Bool := match sc x with
  | some .globalImplicit => true
  | _ => false
noncomputable def isBindB (sc : Kinds) (x : Str) : Bool := match sc x with
  | some .local | some .cell => true
  | _ => false
noncomputable def isOwnB (sc : Kinds) (x : Str) : Bool := match sc x with
  | some .local => true
  | _ => false
theorem isOwn {sc : Kinds} {x : Str} (h : isOwnB sc x = true) : sc x = some .local := by
  unfold isOwnB at h; split at h <;> first | assumption | cases h
theorem isGlob {sc : Kinds} {x : Str} (h : isGlobB sc x = true) : sc x = some .globalImplicit := by
  unfold isGlobB at h; split at h <;> first | assumption | cases h
theorem isBind {sc : Kinds} {x : Str} (h : isBindB sc x = true) : bindable sc x := by
  unfold isBindB at h; split at h <;> first | exact .inl (by assumption) | exact .inr (by assumption) | cases h
theorem isLoc {sc : Kinds} {x : Str} (h : isLocB sc x = true) : sc x = some .local ∨ sc x = some .cell ∨ sc x = some .free := by
  unfold isLocB at h; split at h <;> first | exact .inl (by assumption) | exact .inr (.inl (by assumption)) | exact .inr (.inr (by assumption)) | cases h
noncomputable def Known (X : Cx) (x : Str) : Prop := ∃ v, X.val x = some v
section
variable {X : Cx} {k : Nat} {env : Env} {sc : Kinds} {m : Loc} {σ : Store} {K : OutE → Prop} {p q : Pos}
theorem zqt {u : Nat} {b : Int} (h : K (.val (.d (.int b)) σ)) : SE X k env sc (eval (.Constant (.int b) u p) env) m σ K := fun A s ρ Q E ar R F ok er => wpAny_Constant_int (ok.same R h (.ofInt ..) _)
theorem zqv {u : Nat} {b : Str} (h : K (.val (.d (.str b)) σ)) : SE X k env sc (eval (.Constant (.str b) u p) env) m σ K := fun A s ρ Q E ar R F ok er => Calls.Constant_str (ok.same R h (.ofStr ..) _)
theorem zqs {u : Nat} {b : Bool} (h : K (.val (.d (.bool b)) σ)) : SE X k env sc (eval (.Constant (.bool b) u p) env) m σ K := fun A s ρ Q E ar R F ok er => wpAny_pure (ok.same R h (.ofBool _) s.toks)
theorem zqz {u : Nat} (h : K (.val (.d .none) σ)) : SE X k env sc (eval (.Constant .none u p) env) m σ K := fun A s ρ Q E ar R F ok er => wpAny_pure (ok.same R h .ofNone s.toks)
theorem zqae {x : Str} {v : V} (h1 : isLocB sc x = true) (hm : m x = some v) (hK : K (.val v σ)) : SE X k env sc (eval (.Name x p) env) m σ K := by
  intro A s ρ Q E ar R F hQ er
  have cellCase : ∀ kd, sc x = some kd → (kd = .cell ∨ kd = .free) → wpAny (model X.prog X.w) A (eval (.Name x p) env) Q E s := by
    rintro kd hsc hkd
    obtain ⟨c, ov, h1, h2, h3⟩ := F.cells x (by rcases hkd with rfl | rfl <;> simp [hsc])
    obtain ⟨a, rfl, hv⟩ := h3 v hm
    refine wpAny_Name ?_ (F.kinds.notDebug hsc)
    have : env.kindOf x = some .cell ∨ env.kindOf x = some .free := by
      rcases hkd with rfl | rfl
      · exact .inl (F.kinds.cell x hsc)
      · exact F.kinds.free x hsc
    rcases this with h | h
    · exact wpAny_loadName_cell F.kind h h1 h2 (hQ.same R hK hv s.toks)
    · exact wpAny_loadName_free F.kind h h1 h2 (hQ.same R hK hv s.toks) (F.kinds.notClassdict hsc)
  rcases isLoc h1 with hsc | hsc | hsc
  · obtain ⟨mm, hn, hl⟩ := F.ns
    obtain ⟨a, h1, h2⟩ := hl x v hsc hm
    exact wpAny_Name (wpAny_loadName_local F.kind (F.kinds.loc x hsc) hn h1 (hQ.same R hK h2 s.toks)) (F.kinds.notDebug hsc)
  · exact cellCase _ hsc (.inl rfl)
  · exact cellCase _ hsc (.inr rfl)
theorem zqcr {x : Str} (cx : CxOk X) (h1 : isGlobB sc x = true) (h2 : Known X x) (h : K (.val (.glob x) σ)) : SE X k env sc (eval (.Name x p) env) m σ K := fun A s ρ Q E ar R F ok er =>
  let ⟨v, h3⟩ := h2
  glob_sound cx R F (isGlob h1) h3 (ok.same R h (.glob h3) s.toks)
theorem zqat {l r : Expr} {op : Operator} (hw : SE X k env sc (eval l env) m σ (thenE K fun a σ => SE X k env sc (eval r env) m σ (thenE K fun b σ => binW X op a b σ K))) : SE X k env sc (eval (.BinOp l op r p) env) m σ K := by
  intro A s ρ Q E ar R F hok er
  refine wpAny_BinOp (SE.andThen hw ar R F er fun a σ₁ ρ₁ va h₁ tk hf R₁ g₁ ha ar₁ F₁ => ?_)
  refine SE.andThen (s := { s with heap := h₁, toks := tk }) hf ar₁ R₁ F₁ (er.after g₁) fun b σ₂ ρ₂ vb h₂ tk₂ hf₂ R₂ g₂ hb ar₂ F₂ => ?_
  exact bin_sound hf₂ R₂ (ha.go R₁ g₂ .nowhere) hb (hok.after (g₁.trans g₂))
theorem zqbr {x : Expr} {op : UnaryOp} (hw : SE X k env sc (eval x env) m σ (thenE K fun a σ => unW X op a σ K)) : SE X k env sc (eval (.UnaryOp op x p) env) m σ K := by
  intro A s ρ Q E ar R F hok er
  refine wpAny_UnaryOp (SE.andThen hw ar R F er fun a σ₁ ρ₁ va h₁ tk hf R₁ g₁ ha ar₁ F₁ => ?_)
  exact un_sound hf R₁ ha (hok.after g₁)
noncomputable def SBs (X : Cx) (k : Nat) (env : Env) (sc : Kinds) (op : BoolOp) (es : List Expr) (m : Loc) (σ : Store) (K : OutE → Prop) : Prop := ∀ pos, SE X k env sc (boolOp pos op (evalEach es env)) m σ K
theorem zqcj {vs : List Expr} {op : BoolOp} (h : SBs X k env sc op vs m σ K) : SE X k env sc (eval (.BoolOp op vs p) env) m σ K := h p
theorem zqax {op : BoolOp} {e : Expr} (h : SE X k env sc (eval e env) m σ K) : SBs X k env sc op [e] m σ K := fun _ => h
theorem zqaa {op : BoolOp} {e e' : Expr} {r : List Expr} (hw : SE X k env sc (eval e env) m σ (thenE K fun v σ => ∃ b, truthW v = some b ∧ (match op, b with
      | .And, false | .Or, true => K (.val v σ)
      | _, _ => SBs X k env sc op (e' :: r) m σ K))) : SBs X k env sc op (e :: e' :: r) m σ K := by
  intro pos A s ρ Q E ar R F ok er
  show wpAny _ A (eval e env >>= fun v => standAt pos >>= fun _ => holding [v] (truthy v) >>= fun t => _) Q E s
  refine wpAny_bind (SE.andThen hw ar R F er fun v σ₁ ρ₁ a h₁ tk hf R₁ g₁ hv ar₁ F₁ => ?_)
  obtain ⟨b, ht, hf⟩ := hf
  refine wpAny_bind (wpAny_standAt (wpAny_bind (wpAny_holding (truth_sound ht hv ?_))))
  have go : SBs X k env sc op (e' :: r) m σ₁ K → wpAny (model X.prog X.w) A (boolOp pos op (evalEach (e' :: r) env)) Q E { s with heap := h₁, toks := tk } :=
    fun hw' => hw' pos A { s with heap := h₁, toks := tk } ρ₁ Q E ar₁ R₁ F₁ (ok.after g₁) (er.after g₁)
  cases op <;> cases b <;> dsimp only at hf ⊢
  · exact wpAny_pure (ok _ _ _ _ _ _ hf R₁ g₁ hv)
  · exact go hf
  · exact go hf
  · exact wpAny_pure (ok _ _ _ _ _ _ hf R₁ g₁ hv)
theorem zqca {e e' : Expr} {r : List Expr} (h : SE X k env sc (eval e env) m σ (thenE K fun v σ => ∃ b, truthW v = some b ∧ (if b then SBs X k env sc .And (e' :: r) m σ K else K (.val v σ)))) : SBs X k env sc .And (e :: e' :: r) m σ K := by
  refine zqaa ?_
  have e : (fun v σ => ∃ b, truthW v = some b ∧ (if b then SBs X k env sc .And (e' :: r) m σ K else K (.val v σ)) : V → Store → Prop) = fun v σ => ∃ b, truthW v = some b ∧ (match BoolOp.And, b with
      | .And, false | .Or, true => K (.val v σ)
      | _, _ => SBs X k env sc .And (e' :: r) m σ K) := by funext v σ; congr 1; funext b; cases b <;> rfl
  rw [← e]; exact h
theorem cmp1 {op : CmpOp} {e : Expr} {a : V} {va : Value} {f : Bool → Store → Prop} {pos : Pos} {A : Around} {s : Shared} {ρ : Nat → Addr} {Q : Value → Shared → Prop} {E : Value → Shared → Prop} (h1 : behindInMarks op e = false) (hw : SE X k env sc (eval e env) m σ (thenE K fun b σ => cmpW X op a b σ fun r => f r σ))
    (ar : Ar X k A env s.heap) (R : Rep X ρ σ s.heap) (F : Frm X env sc m σ.length ρ s.heap) (hv : Has X σ.length ρ s.heap a va) (er : ErE X env.frame σ ρ s K E)
    (h : ∀ r σ' ρ' h' tk, f r σ' → Rep X ρ' σ' h' → Go Nowhere σ ρ s.heap σ' ρ' h' → Ar X k A env h' → Frm X env sc m σ'.length ρ' h' → Q (.bool r) { s with heap := h', toks := tk }) :
    wpAny (model X.prog X.w) A (holding [va] (markedBehindIn op e (eval e env)) >>= fun rv => standAt pos >>= fun _ => operate [va, rv] (compareOp op va rv)) Q E s := by
  rw [markedBehindIn_of_false h1]
  refine wpAny_bind (wpAny_holding (SE.andThen hw ar R F er fun b σ₁ ρ₁ vb h₁ tk hf R₁ g₁ hb ar₁ F₁ => ?_))
  exact wpAny_bind (wpAny_standAt (wpAny_operating (cmp_sound hf ar₁ R₁ (hv.go R g₁ .nowhere) hb fun r hr => h r σ₁ ρ₁ h₁ tk hr R₁ g₁ ar₁ F₁)))
theorem cmp2 {op : CmpOp} {e : Expr} {a : V} {va : Value} {g : V → Bool → Store → Prop} {pos : Pos} {A : Around} {s : Shared} {ρ : Nat → Addr} {α : Type} {Q : α → Shared → Prop} {E : Value → Shared → Prop} {next : Value → Sem α} {no : Value → Sem α} (hw : SE X k env sc (eval e env) m σ (thenE K fun b σ => cmpW X op a b σ fun r => g b r σ))
    (ar : Ar X k A env s.heap) (R : Rep X ρ σ s.heap) (F : Frm X env sc m σ.length ρ s.heap) (hv : Has X σ.length ρ s.heap a va) (er : ErE X env.frame σ ρ s K E)
    (h : ∀ b vb r σ' ρ' h' tk, g b r σ' → Rep X ρ' σ' h' → Go Nowhere σ ρ s.heap σ' ρ' h' → Has X σ'.length ρ' h' b vb → Ar X k A env h' → Frm X env sc m σ'.length ρ' h' → wpAny (model X.prog X.w) A (if r = true then next vb else no (.bool r)) Q E { s with heap := h', toks := tk }) :
    wpAny (model X.prog X.w) A (holding [va] (eval e env) >>= fun rv => standAt pos >>= fun _ => holding [va, rv] (compareOp op va rv) >>= fun c => release [va, rv] [c] >>= fun _ => holding [c, rv] (truthy c) >>= fun t => if t = true then next rv else no c) Q E s := by
  refine wpAny_bind (wpAny_holding (SE.andThen hw ar R F er fun b σ₁ ρ₁ vb h₁ tk hf R₁ g₁ hb ar₁ F₁ => ?_))
  refine wpAny_bind (wpAny_standAt (wpAny_bind (wpAny_holding (cmp_sound hf ar₁ R₁ (hv.go R g₁ .nowhere) hb fun r hr => ?_))))
  exact wpAny_bind (release_any (wpAny_bind (wpAny_holding (wpAny_truthy_bool (h b vb r σ₁ ρ₁ h₁ tk hr R₁ g₁ hb ar₁ F₁)))))
theorem zqbu {l e : Expr} {op : CmpOp} (h1 : behindInMarks op e = false) (hw : SE X k env sc (eval l env) m σ (thenE K fun a σ => SE X k env sc (eval e env) m σ (thenE K fun b σ => cmpW X op a b σ fun r => K (.val (.d (.bool r)) σ)))) :
    SE X k env sc (eval (.Compare l [op] [e] p) env) m σ K := by
  intro A s ρ Q E ar R F hok er
  show wpAny _ A (eval l env >>= fun a => compareChain p a [op] (markedEach [op] [e] (evalEach [e] env))) Q E s
  refine wpAny_bind (SE.andThen hw ar R F er fun a σ₁ ρ₁ va h₁ tk hf R₁ g₁ ha ar₁ F₁ => ?_)
  exact cmp1 (s := { s with heap := h₁, toks := tk }) (f := fun r σ => K (.val (.d (.bool r)) σ)) h1 hf ar₁ R₁ F₁ ha (er.after g₁) fun r σ₂ ρ₂ h₂ tk₂ hK R₂ g₂ _ _ => hok _ _ _ _ _ _ hK R₂ (g₁.trans g₂) (.ofBool r)
noncomputable def SL (X : Cx) (k : Nat) (env : Env) (sc : Kinds) (es : List Expr) (m : Loc) (σ : Store) (K : OutE → Prop) (f : List V → Store → Prop) : Prop :=
  ∀ (pos : Pos) (A : Around) (s : Shared) (ρ : Nat → Addr) (Q : List Value → Shared → Prop) (E : Value → Shared → Prop), Ar X k A env s.heap → Rep X ρ σ s.heap → Frm X env sc m σ.length ρ s.heap → ErE X env.frame σ ρ s K E →
    (∀ vs σ' ρ' as h' tk, f vs σ' → Rep X ρ' σ' h' → Go Nowhere σ ρ s.heap σ' ρ' h' → HasAll X σ'.length ρ' h' vs as → Ar X k A env h' → Frm X env sc m σ'.length ρ' h' → Q as { s with heap := h', toks := tk }) →
    wpAny (model X.prog X.w) A (spliced (backTo pos (starEach es env))) Q E s
theorem zqcl {f : List V → Store → Prop} (h : f [] σ) : SL X k env sc [] m σ K f := fun pos A s ρ Q E ar R F er hq => wpAny_items_nil (hq [] σ ρ [] s.heap s.toks h R (.refl ..) .nil ar F)
theorem zqbq {e : Expr} {r : List Expr} {f : List V → Store → Prop} (hs : noStar e = true) (hw : SE X k env sc (eval e env) m σ (thenE K fun v σ => SL X k env sc r m σ K fun vs σ => f (v :: vs) σ)) : SL X k env sc (e :: r) m σ K f := by
  intro pos A s ρ Q E ar R F er h
  refine wpAny_items_cons ?_ (starEach_plain hs)
  refine SE.andThen hw ar R F er fun v σ₁ ρ₁ a h₁ tk hf R₁ g₁ hv ar₁ F₁ => ?_
  refine hf pos A { s with heap := h₁, toks := tk } ρ₁ _ E ar₁ R₁ F₁ (er.after g₁) fun vs σ₂ ρ₂ as h₂ tk₂ hf₂ R₂ g₂ hvs ar₂ F₂ => ?_
  exact h (v :: vs) σ₂ ρ₂ (a :: as) h₂ tk₂ hf₂ R₂ (g₁.trans g₂) (.cons (hv.go R₁ g₂ .nowhere) hvs) ar₂ F₂
theorem zqy {es : List Expr} (hw : SL X k env sc es m σ K fun vs σ => vs.length ≤ 1000000 ∧ K (.val (.ref σ.length) (σ ++ [.lst vs]))) : SE X k env sc (eval (.List es p) env) m σ K := by
  intro A s ρ Q E ar R F hok er
  refine wpAny_List_spliced (hw _ A s ρ _ E ar R F er fun vs σ₁ ρ₁ as h₁ tk hf R₁ g₁ hvs ar₁ F₁ => ⟨?_, ?_⟩)
  · rw [sizeLine_eq, ← hvs.length]; have := hf.1; omega
  · have := R₁.newList (n := 0) hvs
    exact hok _ _ _ (.ref h₁.objs.size) _ tk hf.2 this.1 (g₁.trans this.2) newRef
theorem newObjTuple {A : Around} {s : Shared} {ρ : Nat → Addr} {items : List Value} {Q : Value → Shared → Prop} (R : Rep X ρ σ s.heap) {ds : List PyData} (hv : HasAll X σ.length ρ s.heap (ds.map V.d) items)
    (h : ∀ h', Rep X ρ σ h' → Go Nowhere σ ρ s.heap σ ρ h' → Has X σ.length ρ h' (.d (.tuple ds)) (.ref s.heap.objs.size) → Q (.ref s.heap.objs.size) { s with heap := h' }) :
    Q (.ref s.heap.objs.size) { s with heap := s.heap.push { cls := .type "tuple", data := .seq items.toArray } } := by
  obtain ⟨R', g'⟩ := R.push (W := Nowhere) { cls := .type "tuple", data := .seq items.toArray }
  refine h _ R' g' (.d (.tuple (Heap.get?_push_size _ rfl) rfl rfl (fun q => ?_) ?_))
  · obtain ⟨o, _, _, e, _⟩ := R.bad _ q
    exact Nat.lt_irrefl _ (Heap.lt_size e)
  have : ∀ (ds : List PyData) (items : List Value), HasAll X σ.length ρ s.heap (ds.map V.d) items → RdsC X.bad s.heap items ds := by
    intro ds
    induction ds with
    | nil => intro items x; cases x; exact .nil
    | cons d ds ih =>
      intro items x
      cases x with
      | cons h1 h2 => exact .cons h1.d_rdc (ih _ h2)
  exact (this ds items hv).to (fun _ _ _ q => q) fun b o e _ _ _ => Heap.get?_push_of_some _ e
theorem zqay {es : List Expr} {b : _} (hw : SL X k env sc es m σ K fun vs σ => ∃ ds, vs = ds.map V.d ∧ ds.length ≤ 1000000 ∧ K (.val (.d (.tuple ds)) σ)) : SE X k env sc (eval (.Tuple es b p) env) m σ K := by
  intro A s ρ Q E ar R F hok er
  refine wpAny_Tuple_spliced (hw _ A s ρ _ E ar R F er fun vs σ₁ ρ₁ as h₁ tk hf R₁ g₁ hvs ar₁ F₁ => ?_)
  obtain ⟨ds, rfl, hlen, hK⟩ := hf
  refine ⟨?_, newObjTuple (A := A) (s := { s with heap := h₁, toks := tk }) R₁ hvs fun h' R' g' hv' => hok _ _ _ _ _ _ hK R' (g₁.trans g') hv'⟩
  rw [sizeLine_eq, ← hvs.length, List.length_map]; omega
theorem zqai (h : K (.val (.ref σ.length) (σ ++ [.dct]))) : SE X k env sc (eval (.Dict [] [] p) env) m σ K := by
  intro A s ρ Q E ar R F hok er
  refine wpAny_Dict_empty ?_
  have := R.newCell (cc := .dct) (oo := { cls := .type "dict", data := .dict #[] }) (items := []) ⟨rfl, _, _, rfl⟩ .nil
  exact hok _ _ _ (.ref s.heap.objs.size) _ s.toks h this.1 this.2 newRef
theorem noSlice_ne {i : Expr} (h : noSlice i = true) : ∀ b c d q, i ≠ .Slice b c d q := fun b c d q e => by rw [e] at h; cases h
theorem zqbj {a i : Expr} (h1 : noSlice i = true) (hw : SE X k env sc (eval a env) m σ (thenE K fun o σ => SE X k env sc (eval i env) m σ (thenE K fun j σ => itemW X o j σ K))) : SE X k env sc (eval (.Subscript a i p) env) m σ K := by
  intro A s ρ Q E ar R F hok er
  refine Subscript_ (SE.andThen hw ar R F er fun o σ₁ ρ₁ vo h₁ tk hf R₁ g₁ ho ar₁ F₁ => ?_)
  refine SE.andThen (s := { s with heap := h₁, toks := tk }) hf ar₁ R₁ F₁ (er.after g₁) fun j σ₂ ρ₂ vj h₂ tk₂ hf₂ R₂ g₂ hj ar₂ F₂ => ?_
  exact item_sound (noSlice_ne h1) hf₂ R₂ (ho.go R₁ g₂ .nowhere) hj (hok.after (g₁.trans g₂))
noncomputable def SO (X : Cx) (k : Nat) (env : Env) (sc : Kinds) (e : Option Expr) (m : Loc) (σ : Store) (K : OutE → Prop) (f : Option Int → Store → Prop) : Prop :=
  ∀ (A : Around) (s : Shared) (ρ : Nat → Addr) (Q : Value → Shared → Prop) (E : Value → Shared → Prop), Ar X k A env s.heap → Rep X ρ σ s.heap → Frm X env sc m σ.length ρ s.heap → ErE X env.frame σ ρ s K E →
    (∀ i v σ' ρ' h' tk, f i σ' → IsPart v i → Rep X ρ' σ' h' → Go Nowhere σ ρ s.heap σ' ρ' h' → Ar X k A env h' → Frm X env sc m σ'.length ρ' h' → Q v { s with heap := h', toks := tk }) → wpAny (model X.prog X.w) A (evalPart e env) Q E s
theorem zqam {f : Option Int → Store → Prop} (h : f none σ) : SO X k env sc none m σ K f := fun A s ρ Q E ar R F er hq => wpAny_pure (hq none _ σ ρ s.heap s.toks h .none R (.refl ..) ar F)
theorem zqcp {e : Expr} {f : Option Int → Store → Prop} (hw : SE X k env sc (eval e env) m σ (thenE K fun v σ => ∃ i, v = .d (.int i) ∧ f (some i) σ)) : SO X k env sc (some e) m σ K f := by
  intro A s ρ Q E ar R F er h
  refine SE.andThen hw ar R F er fun v σ₁ ρ₁ a h₁ tk hf R₁ g₁ hv ar₁ F₁ => ?_
  obtain ⟨i, rfl, hf⟩ := hf
  obtain ⟨t, rfl⟩ := hv.int_inv
  exact h (some i) _ σ₁ ρ₁ h₁ tk hf (.int i t) R₁ g₁ ar₁ F₁
theorem zqcf {a : Expr} {lo hi : Option Expr} (hw : SE X k env sc (eval a env) m σ (thenE K fun o σ => SO X k env sc lo m σ K fun l σ => SO X k env sc hi m σ K fun u σ => sliceW X o l u σ K)) : SE X k env sc (eval (.Subscript a (.Slice lo hi none q) p) env) m σ K := by
  intro A s ρ Q E ar R F hok er
  refine Subscript_ (SE.andThen hw ar R F er fun o σ₁ ρ₁ vo h₁ tk hf R₁ g₁ ho ar₁ F₁ => ?_)
  refine wpAny_Slice (hf A { s with heap := h₁, toks := tk } ρ₁ _ E ar₁ R₁ F₁ (er.after g₁) fun l vl σ₂ ρ₂ h₂ tk₂ hf₂ pl R₂ g₂ ar₂ F₂ => ?_)
  refine hf₂ A { s with heap := h₂, toks := tk₂ } ρ₂ _ E ar₂ R₂ F₂ ((er.after g₁).after g₂) fun u vu σ₃ ρ₃ h₃ tk₃ hf₃ pu R₃ g₃ ar₃ F₃ => ?_
  exact wpAny_pure (slice_sound (s := { s with heap := h₃, toks := tk₃ }) hf₃ R₃ ((ho.go R₁ g₂ .nowhere).go R₂ g₃ .nowhere) pl pu (hok.after ((g₁.trans g₂).trans g₃)))
theorem zqbl {x : Str} {args : List Expr} {T : Contract} (cx : CxOk X) (h1 : isGlobB sc x = true) (hT : ValidF X k x T) (hst : args.all noStar = true) (hw : SL X k env sc args m σ K fun vs σ => T vs σ K) : SE X k env sc (eval (.Call (.Name x q) args [] p) env) m σ K := by
  intro A s ρ Q E ar R F hok er
  obtain ⟨fv, hval, hkp, hcall⟩ := hT
  refine wpAny_Call_NameR (glob_sound cx R F (isGlob h1) hval ?_)
  refine callWith_gen (args_noStar args hst) hkp (evalArgs_gen (args_noStar args hst) ?_)
  refine hw _ A s ρ _ E ar R F er fun vs σ₁ ρ₁ as h₁ tk hf R₁ g₁ hvs ar₁ F₁ => ⟨R₁.base, ?_⟩
  exact hcall vs σ₁ K hf A { s with heap := h₁, toks := tk } ρ₁ _ Q E ar₁.c R₁ (by simpa using hvs) (hok.after g₁) (er.after g₁).none
theorem noSuper_base {o : Expr} {name : Str} (h : noSuper o = true) : attributeBase o name env (eval o env) = eval o env := by
  unfold attributeBase
  split
  · exact absurd h (by simp [noSuper])
  · rfl
theorem zqas {o : Expr} {name : Str} {args : List Expr} {T : Contract} (h1 : noSuper o = true) (h2 : (q.endLine == p.line) = true) (h3 : args.all noStar = true) (h4 : args.length < 20) (hM : ValidM X k "list" name T)
    (hw : SE X k env sc (eval o env) m σ (thenE K fun ov σ => ∃ l xs, ov = .ref l ∧ itemsAt σ l = some xs ∧ SL X k env sc args m σ K fun vs σ => T (.ref l :: vs) σ K)) : SE X k env sc (eval (.Call (.Attribute o name q) args [] p) env) m σ K := by
  intro A s ρ Q E ar R F hok er
  show wpAny _ A (attributeBase o name env (eval o env) >>= fun ov => standAt q.atName >>= fun _ => methodCall o name q p env ov (args.length + 0) (backTo p (starEach args env)) []) Q E s
  rw [noSuper_base h1]
  refine wpAny_bind (SE.andThen hw ar R F er fun ov σ₁ ρ₁ va h₁ tk hf R₁ g₁ ho ar₁ F₁ => wpAny_bind (wpAny_standAt ?_))
  obtain ⟨l, xs, rfl, hl, hf⟩ := hf
  obtain ⟨id, pa, slot, htyp, hcall⟩ := hM
  obtain ⟨_, rfl⟩ := ho.ref_inv
  obtain ⟨_, its, ⟨n, e⟩, _⟩ := R₁.list hl
  have hpos : methodCallPos true o env q p = pure p := by unfold methodCallPos; simp [h2]
  have hform : methodCallForm (args.length + 0) (backTo p (starEach args env)) [] = true := by
    unfold methodCallForm
    have : (backTo p (starEach args env)).all (fun x => !x.1) = true := by
      rw [List.all_eq_true]
      intro x hx
      have := List.any_eq_false.mp (args_noStar args h3) x hx
      simpa using this
    rw [this]
    simpa using (by omega : args.length < 30)
  unfold methodCall
  rw [hform]
  refine wpAny_bind (wpAny_holding (getMethod_builtin (s := { s with heap := h₁, toks := tk }) ⟨_, e, rfl⟩ pa slot htyp (fun b w => by cases w; exact ⟨_, e, rfl⟩) ?_))
  refine wpAny_bind (wpAny_of_eq hpos ?_)
  refine callWith_gen (args_noStar args h3) Kp.builtin (evalArgs_gen (args_noStar args h3) ?_)
  refine hf _ A { s with heap := h₁, toks := tk } ρ₁ _ E ar₁ R₁ F₁ (er.after g₁) fun vs σ₂ ρ₂ as h₂ tk₂ hf₂ R₂ g₂ hvs ar₂ F₂ => ⟨R₂.base, ?_⟩
  exact hcall (.ref l :: vs) σ₂ K hf₂ A { s with heap := h₂, toks := tk₂ } ρ₂ _ Q E ar₂.c R₂ (.cons (ho.go R₁ g₂ .nowhere) hvs) (hok.after (g₁.trans g₂)) ((er.after g₁).after g₂).none
end
end Mine

set_option Elab.async false
set_option autoImplicit false
set_option linter.unusedVariables false
namespace Mine
open PySem PySem.Spec PySem.Calls PyProof.Rows
section
variable {X : Cx} {k : Nat} {env : Env} {sc : Kinds} {m : Loc} {σ : Store} {K : OutE → Prop} {f : Bool → Store → Prop} {p q : Pos}
noncomputable abbrev SV (X : Cx) (k : Nat) (env : Env) (sc : Kinds) (e : Expr) (m : Loc) (σ : Store) (K : OutE → Prop) (f : Bool → Store → Prop) : Prop := ST X k env sc (isTrue e env (eval e env)) m σ K f
theorem zqbi {e : Expr} (he : ∀ whole, isTrue e env whole = (do let v ← whole; standAt e.pos; holding [v] (truthy v))) (x : SE X k env sc (eval e env) m σ (thenE K fun v σ => ∃ b, truthW v = some b ∧ f b σ)) : SV X k env sc e m σ K f := by
  intro A s ρ Q E ar R F h er
  refine wpAny_isTrue_value (SE.andThen x ar R F er fun v σ₁ ρ₁ a h₁ tk hf R₁ g₁ hv ar₁ F₁ => ?_) (he _)
  obtain ⟨b, ht, hf⟩ := hf
  exact truth_sound ht hv (h b σ₁ ρ₁ h₁ tk hf R₁ g₁ ar₁ F₁)
theorem zqaq {g : Expr} {args : List Expr} {kws : List Keyword} (h : SE X k env sc (eval (.Call g args kws p) env) m σ (thenE K fun v σ => ∃ b, truthW v = some b ∧ f b σ)) : SV X k env sc (.Call g args kws p) m σ K f := zqbi (fun _ => rfl) h
theorem zqcq {x : Expr} (h : SV X k env sc x m σ K fun b σ => f (!b) σ) : SV X k env sc (.UnaryOp .Not x p) m σ K f := by
  intro A s ρ Q E ar R F hq er
  exact wpAny_isTrue_Not (h A s ρ _ E ar R F (fun b σ₁ ρ₁ h₁ tk hf R₁ g₁ ar₁ F₁ => hq (!b) σ₁ ρ₁ h₁ tk hf R₁ g₁ ar₁ F₁) er)
noncomputable def SVs (X : Cx) (k : Nat) (env : Env) (sc : Kinds) (op : BoolOp) (es : List Expr) (m : Loc) (σ : Store) (K : OutE → Prop) (f : Bool → Store → Prop) : Prop := ST X k env sc (allTrue op es env) m σ K f
theorem zqbp {vs : List Expr} {op : BoolOp} (h : SVs X k env sc op vs m σ K f) : SV X k env sc (.BoolOp op vs p) m σ K f := by
  intro A s ρ Q E ar R F hq er
  exact wpAny_isTrue_BoolOp (h A s ρ Q E ar R F hq er)
theorem zqan (h : f true σ) : SVs X k env sc .And [] m σ K f := fun A s ρ Q E ar R F hq er => wpAny_pure (hq _ σ ρ s.heap s.toks h R (.refl ..) ar F)
theorem zqce (h : f false σ) : SVs X k env sc .Or [] m σ K f := fun A s ρ Q E ar R F hq er => wpAny_pure (hq _ σ ρ s.heap s.toks h R (.refl ..) ar F)
theorem zqbf {e : Expr} {r : List Expr} (hw : SV X k env sc e m σ K fun b σ => if b then SVs X k env sc .And r m σ K f else f false σ) : SVs X k env sc .And (e :: r) m σ K f := by
  intro A s ρ Q E ar R F h er
  refine wpAny_allTrue_And_cons (hw A s ρ _ E ar R F (fun b σ₁ ρ₁ h₁ tk hf R₁ g₁ ar₁ F₁ => ?_) er)
  cases b with
  | false => exact h false σ₁ ρ₁ h₁ tk hf R₁ g₁ ar₁ F₁
  | true => exact (show SVs X k env sc .And r m σ₁ K f from hf) A { s with heap := h₁, toks := tk } ρ₁ Q E ar₁ R₁ F₁ (fun r σ₂ ρ₂ h₂ tk₂ hf₂ R₂ g₂ ar₂ F₂ => h r σ₂ ρ₂ h₂ tk₂ hf₂ R₂ (g₁.trans g₂) ar₂ F₂) (er.after g₁)
theorem zqar {e : Expr} {r : List Expr} (hw : SV X k env sc e m σ K fun b σ => if b then f true σ else SVs X k env sc .Or r m σ K f) : SVs X k env sc .Or (e :: r) m σ K f := by
  intro A s ρ Q E ar R F h er
  refine wpAny_allTrue_Or_cons (hw A s ρ _ E ar R F (fun b σ₁ ρ₁ h₁ tk hf R₁ g₁ ar₁ F₁ => ?_) er)
  cases b with
  | true => exact h true σ₁ ρ₁ h₁ tk hf R₁ g₁ ar₁ F₁
  | false => exact (show SVs X k env sc .Or r m σ₁ K f from hf) A { s with heap := h₁, toks := tk } ρ₁ Q E ar₁ R₁ F₁ (fun r σ₂ ρ₂ h₂ tk₂ hf₂ R₂ g₂ ar₂ F₂ => h r σ₂ ρ₂ h₂ tk₂ hf₂ R₂ (g₁.trans g₂) ar₂ F₂) (er.after g₁)
theorem zqx {op : CmpOp} {e : Expr} {a : V} {va : Value} {pos : Pos} {A : Around} {s : Shared} {ρ : Nat → Addr} {Q : Bool → Shared → Prop} {E : Value → Shared → Prop} (h1 : behindInMarks op e = false) (hw : SE X k env sc (eval e env) m σ (thenE K fun b σ => cmpW X op a b σ fun r => f r σ))
    (ar : Ar X k A env s.heap) (R : Rep X ρ σ s.heap) (F : Frm X env sc m σ.length ρ s.heap) (hv : Has X σ.length ρ s.heap a va) (er : ErE X env.frame σ ρ s K E)
    (h : ∀ r σ' ρ' h' tk, f r σ' → Rep X ρ' σ' h' → Go Nowhere σ ρ s.heap σ' ρ' h' → Ar X k A env h' → Frm X env sc m σ'.length ρ' h' → Q r { s with heap := h', toks := tk }) :
    wpAny (model X.prog X.w) A (holding [va] (markedBehindIn op e (eval e env)) >>= fun rv => standAt pos >>= fun _ => operate [va, rv] (compareOp op va rv) >>= fun c => holding [c] (truthy c)) Q E s := by
  rw [markedBehindIn_of_false h1]
  refine wpAny_bind (wpAny_holding (SE.andThen hw ar R F er fun b σ₁ ρ₁ vb h₁ tk hf R₁ g₁ hb ar₁ F₁ => ?_))
  exact wpAny_bind (wpAny_standAt (wpAny_bind (wpAny_operating (cmp_sound hf ar₁ R₁ (hv.go R g₁ .nowhere) hb fun r hr => wpAny_holding (wpAny_truthy_bool (h r σ₁ ρ₁ h₁ tk hr R₁ g₁ ar₁ F₁))))))
theorem zqah {l e : Expr} {op : CmpOp} (h1 : behindInMarks op e = false) (hw : SE X k env sc (eval l env) m σ (thenE K fun a σ => SE X k env sc (eval e env) m σ (thenE K fun b σ => cmpW X op a b σ fun r => f r σ))) :
    SV X k env sc (.Compare l [op] [e] p) m σ K f := by
  intro A s ρ Q E ar R F h er
  show wpAny _ A (eval l env >>= fun a => testChain p a [op] (markedEach [op] [e] (evalEach [e] env))) Q E s
  refine wpAny_bind (SE.andThen hw ar R F er fun a σ₁ ρ₁ va h₁ tk hf R₁ g₁ ha ar₁ F₁ => ?_)
  exact zqx (s := { s with heap := h₁, toks := tk }) h1 hf ar₁ R₁ F₁ ha (er.after g₁) fun r σ₂ ρ₂ h₂ tk₂ hK R₂ g₂ ar₂ F₂ => h r σ₂ ρ₂ h₂ tk₂ hK R₂ (g₁.trans g₂) ar₂ F₂
theorem zqbm {l e e' : Expr} {op op' : CmpOp} (h1 : behindInMarks op' e' = false) (hw : SE X k env sc (eval l env) m σ (thenE K fun a σ => SE X k env sc (eval e env) m σ (thenE K fun b σ => cmpW X op a b σ fun r => if r then SE X k env sc (eval e' env) m σ (thenE K fun c σ => cmpW X op' b c σ fun r => f r σ) else f false σ))) :
    SV X k env sc (.Compare l [op, op'] [e, e'] p) m σ K f := by
  intro A s ρ Q E ar R F h er
  show wpAny _ A (eval l env >>= fun a => testChain p a [op, op'] (markedEach [op, op'] [e, e'] (evalEach [e, e'] env))) Q E s
  refine wpAny_bind (SE.andThen hw ar R F er fun a σ₁ ρ₁ va h₁ tk hf R₁ g₁ ha ar₁ F₁ => ?_)
  refine cmp2 (s := { s with heap := h₁, toks := tk }) (g := fun b r σ => if r then SE X k env sc (eval e' env) m σ (thenE K fun c σ => cmpW X op' b c σ fun r => f r σ) else f false σ) (next := fun rv => testChain p rv [op'] (markedEach [op'] [e'] (evalEach [e'] env))) (no := fun _ => pure false) hf ar₁ R₁ F₁ ha (er.after g₁) fun b vb r σ₂ ρ₂ h₂ tk₂ hg R₂ g₂ hb ar₂ F₂ => ?_
  cases r with
  | false => exact wpAny_pure (h false σ₂ ρ₂ h₂ tk₂ hg R₂ (g₁.trans g₂) ar₂ F₂)
  | true => exact zqx (s := { s with heap := h₂, toks := tk₂ }) h1 hg ar₂ R₂ F₂ hb ((er.after g₁).after g₂) fun r σ₃ ρ₃ h₃ tk₃ hK R₃ g₃ ar₃ F₃ => h r σ₃ ρ₃ h₃ tk₃ hK R₃ ((g₁.trans g₂).trans g₃) ar₃ F₃
theorem zqbs (h : f true σ) : SIfs X k env sc [] m σ f := h
theorem zqco {e : Expr} (h : SV X k env sc e m σ (fun _ => False) f) : SIfs X k env sc [e] m σ f := h
theorem zqn {elt iter : Expr} {x : Str} {ifs : List Expr} {scope : Scope} (hc : 100 ≤ k) (h1 : noSet iter = true) (h2 : compOkB sc scope x = true)
    (hw : SE X k env sc (eval iter env) m σ (thenE K fun src σ => ∃ (N : Nat) (I : Nat → List V → Store → Prop), N ≤ 1000000 ∧ I 0 [] σ ∧
          (∀ j acc σ, j < N → I j acc σ → ∃ v, srcNext σ src j = some (some v) ∧ acc.length ≤ j ∧ ∀ env',
            SIfs X k env' (kindsOf scope.names) ifs (upd (compLoc scope.names m) x v) σ fun b σ => if b then SE X k env' (kindsOf scope.names) (eval elt env') (upd (compLoc scope.names m) x v) σ (noExn fun w σ => I (j + 1) (acc ++ [w]) σ) else I (j + 1) acc σ) ∧
          (∀ acc σ, I N acc σ → srcNext σ src N = some none ∧ K (.val (.ref σ.length) (σ ++ [.lst acc]))))) : SE X k env sc (eval (.ListComp elt [⟨.Name x q, iter, ifs, 0⟩] scope p) env) m σ K := by
  intro A s ρ Q E ar R F hok er
  rw [eval_ListComp]
  refine comp_core (use := none) hc (compOk_of h2) h1 hw ar R F er fun acc σ' ρ' C h' tk mC hK R' g' hns hC hsep hB => ⟨mC, hns, fun h'' hsb => ?_⟩
  have ex := Ext1.ofSame hsb
  have hn : ∀ o, h'.get? C = some o → ¬ Still o := fun o e => by
    obtain ⟨o', es, ep, e', d, _⟩ := hns
    rw [e] at e'; cases e'; exact Still.notNs d
  exact hok _ _ ρ' _ h'' tk hK (R'.but ex hn hsep hB) (g'.ext1 ex hC) (.ref (by simp))
end
end Mine

set_option Elab.async false
set_option autoImplicit false
set_option linter.unusedVariables false
namespace Mine
open PySem PySem.Spec PySem.Calls PyProof.Rows
structure Older (h h' : Heap) : Prop where
  size : h.objs.size ≤ h'.objs.size
  dead : ∀ b, b < h.objs.size → h.get? b = none → h'.get? b = none
theorem Older.refl {h : Heap} : Older h h := ⟨Nat.le_refl _, fun _ _ e => e⟩
theorem Older.trans {h h' h'' : Heap} (x : Older h h') (y : Older h' h'') : Older h h'' := ⟨Nat.le_trans x.size y.size, fun b hb e => y.dead b (Nat.lt_of_lt_of_le hb x.size) (x.dead b hb e)⟩
theorem Older.push {h : Heap} {o : Obj} : Older h (h.push o) := ⟨by rw [Heap.size_push]; exact Nat.le_succ _, fun b hb e => by
  unfold Heap.get? at e ⊢
  obtain ⟨objs, l⟩ := h
  show (match (objs.push o)[b]? with | some ⟨_, _, .freed, _⟩ => none | o => o) = none
  have : (objs.push o)[b]? = objs[b]? := by
    rw [Array.getElem?_push, if_neg (Nat.ne_of_lt hb)]
  rw [this]; exact e⟩
theorem Older.update {h : Heap} {a : Addr} {f : Obj → Obj} (ha : (h.get? a).isSome = true) : Older h (h.update a f) := ⟨Nat.le_of_eq (Heap.size_after_update ..).symm, fun b hb e => by
  by_cases q : a = b
  · subst q; rw [e] at ha; cases ha
  · rw [Heap.get?_update_other _ _ q]; exact e⟩
theorem runs_older {M : Model} {Γ : PySem.Ctx} {p : Pos} {t : Sem Fin} {fs : List Frame} {s s' : Shared} {e : End} (h : Runs M Γ p t fs s e s') : Older s.heap s'.heap := by
  induction h <;> first
    | exact .refl
    | assumption
    | exact Older.trans (.update (by assumption)) (by assumption)
    | exact Older.trans .push (by assumption)
    | exact Older.trans (by assumption) (by assumption)
theorem wakes_older {M : Model} {Γ : PySem.Ctx} {p : Pos} {g : Nat} {r : Resume} {s s' : Shared} {res : GenResult} (h : Wakes M Γ p g r s res s') : Older s.heap s'.heap := by
  unfold Wakes at h
  split at h
  · exact h.elim
  · split at h
    · obtain ⟨e₁, s₁, hr, _, _, rfl⟩ := h; exact (runs_older hr : Older (s.setGen g .running).heap s₁.heap)
    · rw [h.2]; exact .refl
    · rw [h.2]; exact .refl
  · obtain ⟨e₁, s₁, hr, _, _, rfl⟩ := h; exact (runs_older hr : Older (s.setGen g .running).heap s₁.heap)
  · rw [h.2]; exact .refl
  · rw [h.2]; exact .refl
theorem wp_older {α : Type} (M : Model) (Γ : PySem.Ctx) (h₀ : Heap) (t : Sem α) : ∀ (Q : α → Pos → Shared → Prop) (E : Value → Pos → Shared → Prop) (p : Pos) (s : Shared), Older h₀ s.heap → Sem.wp M Γ t Q E p s →
    Sem.wp M Γ t (fun a p' s' => Older h₀ s'.heap ∧ Q a p' s') (fun e p' s' => Older h₀ s'.heap ∧ E e p' s') p s := by
  induction t with
  | pure a => intro Q E p s hn h; exact ⟨hn, h⟩
  | raise e => intro Q E p s hn h; exact ⟨hn, h⟩
  | unsupported _ => intro Q E p s _ h; exact h
  | finish _ => intro Q E p s _ h; exact h
  | rule _ k ih => intro Q E p s hn h; exact ih () Q E p s hn h
  | «at» p' k ih => intro Q E p s hn h; exact ih () Q E p' s hn h
  | load a _ k ih => intro Q E p s hn h; obtain ⟨o, ho, h⟩ := h; exact ⟨o, ho, ih o Q E p s hn h⟩
  | update a _ f k ih => intro Q E p s hn h; exact ⟨h.1, ih () Q E p _ (hn.trans (.update h.1)) h.2⟩
  | loadIfAlive a k ih => intro Q E p s hn h; exact ih _ Q E p s hn h
  | point _ k ih => intro Q E p s hn h; exact ih () Q E p s hn h
  | register _ _ => intro Q E p s _ h; exact h
  | alloc o k ih => intro Q E p s hn h; exact ih _ Q E p _ (hn.trans .push) h
  | fresh k ih => intro Q E p s hn h; exact ih _ Q E p _ hn h
  | ask k ih => intro Q E p s hn h; exact ih _ Q E p s hn h
  | choose src m k ih => intro Q E p s hn h; exact ⟨h.1, ih _ Q E p _ hn h.2⟩
  | os q _ k ih => intro Q E p s hn h; exact ih _ Q E p _ hn h
  | call c hd _ _ k ih => intro Q E p s hn h; obtain ⟨r, s', hr, h⟩ := h; exact ⟨r, s', hr, ih r Q E p s' (hn.trans (runs_older hr)) h⟩
  | handled own k ih => intro Q E p s hn h; exact ih _ Q E p s hn h
  | genState g k ih => intro Q E p s hn h; obtain ⟨st, hs, h⟩ := h; exact ⟨st, hs, ih _ Q E p s hn h⟩
  | newGen c k ih => intro Q E p s hn h; exact ih _ Q E p _ hn h
  | resume g r _ k ih => intro Q E p s hn h; obtain ⟨res, s', hw, h⟩ := h; exact ⟨res, s', hw, ih res Q E p s' (hn.trans (wakes_older hw)) h⟩
  | yield _ _ _ _ => intro Q E p s _ h; exact h
  | stack k ih => intro Q E p s hn h; exact ih _ Q E p s hn h
  | fork _ _ => intro Q E p s _ h; exact h
  | thread k ih => intro Q E p s hn h; exact ih _ Q E p s hn h
  | await _ _ _ _ _ => intro Q E p s _ h; exact h
theorem wpAny_older {α : Type} {M : Model} {A : Around} {s : Shared} {t : Sem α} {Q : α → Shared → Prop} {E : Value → Shared → Prop}
    (h : wpAny M A t (fun a s' => Older s.heap s'.heap → Q a s') (fun e s' => Older s.heap s'.heap → E e s') s) : wpAny M A t Q E s :=
  fun Γ p hΓ => Sem.wp_mono M Γ t (fun _ _ _ x => x.2 x.1) (fun _ _ _ x => x.2 x.1) p s (wp_older M Γ s.heap t _ _ p s .refl (h Γ p hΓ))
section
variable {X : Cx} {k : Nat} {env : Env} {sc : Kinds} {m : Loc} {σ : Store} {A : Around} {s : Shared} {ρ : Nat → Addr} {E : Value → Shared → Prop}
theorem raise_sound {c : Str} {C : Addr} {x : Str} {j : Nat} {np p1 cp p : Pos} {Q : Flow → Shared → Prop} (cx : CxOk X) (hh : A.handled = none) (R : Rep X ρ σ s.heap) (F : Frm X env sc m σ.length ρ s.heap)
    (O : OwnCls c C bmV "ValueError.__new__" X.mg X.B) (hsc : sc c = some .globalImplicit)
    (h : ∀ e h' tk, Rep X ρ σ h' → Go Nowhere σ ρ s.heap σ ρ h' → Frm X env sc m σ.length ρ h' → Flies X c env.frame s.heap.objs.size e h' → E (.ref e) { s with heap := h', toks := tk }) :
    wpAny (model X.prog X.w) A (exec (.Raise (some (.Call (.Name c np) [.Constant (.str x) j p1] [] cp)) none p) env) Q E s := by
  obtain ⟨bm, N, nm, q, bs, hdct, sn, sub, ab, col, dd, k0, k1, k2, k3, k5, mN, hC, hN, hni, TL⟩ := O.obj
  refine wpAny_older (wpAny_Raise_call_subT (C := C) (N := N) (nm := nm) (q := q) (bs := bs) (bm := bm) (hdct := hdct) (sn := sn) (sub := sub) (ab := ab) (col := col) (dd := dd) (k0 := k0) (k1 := k1) (k2 := k2) (k3 := k3) (k5 := k5) PySem.F.excBase_ValueError (TL.hasType (by decide)) hh rfl hni ?_)
  refine glob_sound cx R F hsc (v := .ref C) (by unfold Cx.val; rw [O.bound]; rfl) ⟨rfl, ?_⟩
  refine evalArgs_gen rfl (wpAny_items_cons (Calls.Constant_str (wpAny_items_nil ?_)))
  refine ⟨rfl, by rw [sizeLine_eq]; simp, R.base _ _ hC, hN.keeps R.base, TL.keeps R.base, fun h' e hm old => ?_⟩
  obtain ⟨t, he, ht, htt⟩ := hm.there
  have g : Go Nowhere σ ρ s.heap σ ρ h' := Go.ofGrow old.size hm.keeps
  refine h e h' _ (R.grow hm.keeps) g (F.go R g) ⟨⟨C, _, _, O.bound, he, rfl, ⟨rfl, rfl⟩, by simp, .inl rfl⟩, ?_⟩
  exact Nat.not_lt.mp fun hlt => by
    have := old.dead e hlt hm.new
    have he' : h'.get? e = _ := he
    rw [he'] at this; cases this
theorem excMatches_own {M : Model} {A : Around} {E : Value → Shared → Prop} {nm q : Str} {Dc N : Addr} {bs bm : List Value} {hdct : Bool} {sn : List Str} {sub : List Value} {ab : Bool} {col : Option Bool} {dd : Option Addr} {k0 k1 k2 k3 k5 : Option Value} {newId : String}
    {h : Heap} {g : Array GenState} {d : Drawn} {t : Nat} {os : OsState} {e C : Addr} {oe : Obj} {Q : Bool → Shared → Prop}
    (hD : h.get? Dc = some (excClassObj nm q Dc N bs bm hdct sn sub ab col dd k0 k1 k2 k3 k5 newId)) (he : h.get? e = some oe) (hcls : oe.cls = .ref C) (hbase : bm.contains (.type "BaseException") = true)
    (hsub : ∀ {Q : Bool → Shared → Prop}, Q true ⟨h, g, d, t, os⟩ → wpAny M A (isSubtype (.ref C) (.ref Dc)) Q E ⟨h, g, d, t, os⟩)
    (hq : Q true ⟨h, g, d, t, os⟩) : wpAny M A (excMatches (.ref e) (.ref Dc)) Q E ⟨h, g, d, t, os⟩ := by
  have hcB : (Value.ref Dc :: bm).contains (.type "BaseException") = true := by rw [List.contains_cons, hbase, Bool.or_true]
  have f := tc_notTuple
  unfold excMatches
  repeat (first | (with_reducible refine wpAny_loadPart_at he ?_; rw [hcls]) | with_reducible refine wpAny_loadPart_at hD ?_ | with_reducible refine hsub ?_ | (with_reducible refine wpAny_isSubtype_exc hD ?_; rw [hcB]) | wp_step)
  exact hq
theorem nameGoes_sound {M : Model} {x : Str} {pos : Pos} {Q : Unit → Shared → Prop} (R : Rep X ρ σ s.heap) (F : Frm X env sc m σ.length ρ s.heap) (hx : sc x = some .local)
    (h : ∀ h' tk, Rep X ρ σ h' → Go (Wr env) σ ρ s.heap σ ρ h' → Frm X env sc (drop m x) σ.length ρ h' → (∀ {v a}, Has X σ.length ρ s.heap v a → Has X σ.length ρ h' v a) → Q () { s with heap := h', toks := tk }) :
    wpAny M A (do bindName env x .none; unbindBehindTheSuite env x pos) Q E s := by
  obtain ⟨mm, hns, hm⟩ := F.ns
  refine wpAny_nameGoes_keeps (F.kinds.loc x hx) hns (by rw [F.kind]; rfl) fun h' v hn' hsb => ?_
  obtain ⟨oL, esL, epL, eL, dL, rL⟩ := hns
  have ex := Ext1.ofSame hsb
  have hn : ∀ o, s.heap.get? env.locals = some o → ¬ Still o := fun o e => by rw [eL] at e; cases e; exact Still.notNs dL
  have st := ex.still' hn
  have R' := R.but ex hn F.sepL F.newL
  have hv' : ∀ {v a}, Has X σ.length ρ s.heap v a → Has X σ.length ρ h' v a := fun q => q.mono (Nat.le_refl _) (fun _ _ => rfl) st
  have hcell : ∀ c ov, s.heap.IsCell c ov → h'.IsCell c ov := fun c ov ⟨o', e', d⟩ => ⟨o', ex.keep _ _ (fun q => by rw [q, eL] at e'; cases e'; rw [dL] at d; cases d) e', d⟩
  refine h h' _ R' ⟨ex.size, fun b o e hw _ => ⟨o.slots, ex.keep b o (fun q => hw (.inl q)) e, fun _ => rfl⟩, fun b o es n e d => ?_, Nat.le_refl _, fun _ _ => rfl, fun i h1 h2 => absurd h2 (Nat.not_lt.mpr h1)⟩ ?_ hv'
  · by_cases hb : b = env.locals
    · subst hb
      obtain ⟨o', es', ep', e', d', _⟩ := hn'
      exact ⟨o', es', ep', e', d'⟩
    · exact ⟨o, es, n, ex.keep b o hb e, d⟩
  · refine { F with ns := ⟨_, hn', ?_⟩, cells := ?_, isCells := ?_ }
    · intro y u hy hu
      unfold drop at hu
      by_cases hyx : y = x
      · rw [if_pos hyx] at hu; cases hu
      · rw [if_neg hyx] at hu
        obtain ⟨b, h1, h2⟩ := hm y u hy hu
        exact ⟨b, by rw [if_neg hyx]; exact h1, hv' h2⟩
    · intro y hy
      obtain ⟨c, ov, h1, h2, h3⟩ := F.cells y hy
      refine ⟨c, ov, h1, hcell c ov h2, fun u hu => ?_⟩
      unfold drop at hu
      by_cases hyx : y = x
      · rw [if_pos hyx] at hu; cases hu
      · rw [if_neg hyx] at hu
        obtain ⟨b, h4, h5⟩ := h3 u hu
        exact ⟨b, h4, hv' h5⟩
    · intro y c hy
      obtain ⟨ov, h1⟩ := F.isCells y c hy
      exact ⟨ov, hcell c ov h1⟩
theorem Ar.frame (ar : Ar X k A env s.heap) : ∃ L, env.frame = some L := by
  obtain ⟨f, o, h1, h2, h3⟩ := ar.stack
  obtain ⟨_, L, _, _, _, h4, _⟩ := h3 f List.mem_cons_self
  exact ⟨L, h2 ▸ h4⟩
theorem base_notD {D : Addr → Prop} {sz : Nat} {h : Heap} (hD : ∀ b, D b → sz ≤ b) (hb : ∀ b o, X.B.get? b = some o → b < sz) : ∀ b o, X.B.get? b = some o → ¬ D b :=
  fun b o e q => absurd (hb b o e) (Nat.not_lt.mpr (hD b q))
theorem zqbc {K : OutS → Prop} {x D : Str} {body hb : List Stmt} {b₀ : Stmt} {dp hp p : Pos} (cx : CxOk X) (h1 : isOwnB sc x = true) (h2 : isGlobB sc D = true) (hDe : ExcOk X D) (hroom : 100 ≤ k)
    (hbody : SS X k env sc (execs body env) m σ (tryK K fun c m σ => (SubOk X c D ∧ kinB c D = true) ∧ SS X 99 env sc (execs (b₀ :: hb) env) (upd m x (.exc c)) σ (asK x K))) :
    SS X k env sc (exec (.Try body [.ExceptHandler (some (.Name D dp)) (some x) (b₀ :: hb) hp] [] [] p) env) m σ K := by
  have hx := isOwn h1
  have hD := isGlob h2
  intro A s ρ Q E ar R F hn hr er
  refine wpAny_Try_except (hbody A s ρ _ _ ar R F (fun m' σ' ρ' h' tk hK R' g' F' => wpAny_execs_nil (hn m' σ' ρ' h' tk hK R' g' F')) (fun v σ' ρ' a h' tk hK R' g' F' hv => hr v σ' ρ' a h' tk hK R' g' F' hv) fun c m₁ σ₁ ρ₁ e h₁ tk₁ hK R₁ g₁ F₁ fl => ?_)
  obtain ⟨⟨hce, hkin⟩, hK⟩ := hK
  obtain ⟨L, hfr⟩ := ar.frame
  have ar₁ := ar.go g₁
  have hlt : ∀ b o, X.B.get? b = some o → b < s.heap.objs.size := fun b o q => Heap.lt_size (R.base b o q)
  refine note_sound (s := { s with heap := h₁, toks := tk₁ }) ar₁ hfr fl g₁.size fun D₂ h₂ dok₂ hD₂ f₂ x₂ => ?_
  refine flight_sound (s := { s with heap := h₂, toks := tk₁ }) (fr := none) x₂ rfl fun D₃ h₃ dok₃ hD₃ f₃ x₃ => ?_
  have R₂ := R₁.fl dok₂ f₂ (base_notD (h := h₁) hD₂ hlt)
  have R₃ := R₂.fl dok₃ f₃ (base_notD (h := h₁) hD₃ hlt)
  have F₃ := (F₁.fl dok₂ f₂).fl dok₃ f₃
  have ar₃ := (ar₁.fl dok₂ f₂).fl dok₃ f₃
  have g₃ := (g₁.fl f₂ hD₂).fl f₃ hD₃
  obtain ⟨C, Dc, hmc, hmD, sees⟩ := hce
  rw [hkin] at sees
  obtain ⟨Dc', O⟩ := hDe
  have hDD : Dc' = Dc := by have := O.bound; rw [hmD] at this; cases this; rfl
  subst hDD
  obtain ⟨bm, N, nm, q, bs, hdct, sn, sub, ab, col, dd, k0, k1, k2, k3, k5, mN, hDo, hN, hni, TL⟩ := O.obj
  refine wpAny_handleBy_cons (codeAny_handlers_test ?_) (by intro q; cases q)
  refine glob_sound (s := { s with heap := h₃, toks := tk₁ }) (v := .ref Dc') cx R₃ F₃ hD (by unfold Cx.val; rw [hmD]; rfl) ?_
  obtain ⟨C', oe, vs, T, oT, ts, hm', he, hcls, hde, hrest⟩ := x₃.ex
  have hCC : C' = C := by rw [hmc] at hm'; cases hm'; rfl
  subst hCC
  refine excMatches_own (R₃.base _ _ hDo) he hcls (TL.hasType (by decide)) (fun hq => sees _ _ _ _ _ R₃.base hq) ?_
  refine codeAny_handlers_suite_as ?_
  refine flight_sound (s := { s with heap := h₃, toks := tk₁ }) (fr := none) x₃ rfl fun D₄ h₄ dok₄ hD₄ f₄ x₄ => ?_
  have R₄ := R₃.fl dok₄ f₄ (base_notD (h := h₁) hD₄ hlt)
  have F₄ := F₃.fl dok₄ f₄
  have ar₄ := ar₃.fl dok₄ f₄
  have g₄ := g₃.fl f₄ hD₄
  obtain ⟨C₄, oe₄, vs₄, T₄, oT₄, ts₄, hm₄, he₄, hcls₄, hde₄, hrest₄⟩ := x₄.ex
  refine storeLocal_sound (s := { s with heap := h₄, toks := tk₁ }) R₄ F₄ hx (.exc hm₄ he₄ hcls₄ hde₄.1 hde₄.2) fun h₅ tk₅ R₅ g₅ F₅ _ => ?_
  have g₅' : Go (Wr env) σ₁ ρ₁ h₄ σ₁ ρ₁ h₅ := g₅.weaken fun b _ _ q => .inl q
  have ar₅ := ar₄.go g₅
  have arH : Ar X 99 (A.mark (some (.ref e))) env h₅ := ⟨fun q => absurd q (by decide), (by have := ar.depth; show A.depth + 99 < _; omega), (by have := ar.units; show A.units + 20 * 99 + 200 < _; omega), ar₅.stack⟩
  refine hK (A.mark (some (.ref e))) { s with heap := h₅, toks := tk₅ } ρ₁ _ _ arH R₅ F₅ (fun m₆ σ₆ ρ₆ h₆ tk₆ hK₆ R₆ g₆ F₆ => ?_) (fun v σ₆ ρ₆ a h₆ tk₆ hK₆ R₆ g₆ F₆ hv => ?_) fun _ _ _ _ _ _ _ hf => hf.elim
  · refine nameGoes_sound (s := { s with heap := h₆, toks := tk₆ }) R₆ F₆ hx fun h₇ tk₇ R₇ g₇ F₇ _ => ?_
    exact hn _ σ₆ ρ₆ h₇ tk₇ hK₆ R₇ ((g₄.trans g₅').trans (g₆.trans g₇)) F₇
  · obtain ⟨m₆, F₆⟩ := F₆
    refine nameGoes_sound (s := { s with heap := h₆, toks := tk₆ }) R₆ F₆ hx fun h₇ tk₇ R₇ g₇ F₇ hv' => ?_
    exact hr v σ₆ ρ₆ a h₇ tk₇ hK₆ R₇ ((g₄.trans g₅').trans (g₆.trans g₇)) ⟨_, F₇⟩ (hv' hv)
end
end Mine

set_option Elab.async false
set_option autoImplicit false
set_option linter.unusedVariables false
namespace Mine
open PySem PySem.Spec PySem.Calls PyProof.Rows
structure Turn (P : Addr → Prop) (h h' : Heap) : Prop where
  size : h.objs.size ≤ h'.objs.size
  keep : ∀ b o, ¬ P b → h.get? b = some o → h'.get? b = some o
structure PObj (X : Cx) (b : Addr) (o : Obj) : Prop where
  nodict : NoDict o
  nocell : ∀ v, o.data ≠ .cell v
  nolist : o.cls ≠ .type "list"
  hid : (∃ T ∈ iterTypes, o.cls = .type T) ∨ (o.cls = .type "tuple" ∧ X.bad b)
section
variable {X : Cx} {P : Addr → Prop} {b' : Addr → Prop} {n : Nat} {ρ : Nat → Addr} {h h' : Heap} {σ : Store}
theorem Turn.still (t : Turn P h h') (hP : ∀ b o, P b → h.get? b = some o → PObj X b o) {b : Addr} {o : Obj} (e : h.get? b = some o) (hs : Still o) (hb : o.cls = .type "tuple" → ¬ X.bad b) : h'.get? b = some o :=
  t.keep b o (fun q => by
    rcases (hP b o q e).hid with ⟨T, hT, hc⟩ | ⟨hc, hbad⟩
    · exact hs.noiter T hT hc
    · exact hb hc hbad) e
theorem Has.turn {v : V} {a : Value} (x : Has X n ρ h v a) (hb : ∀ b o, h.get? b = some o → b' b → X.bad b) (t : Turn P h h') (hP : ∀ b o, P b → h.get? b = some o → PObj X b o) : Has (X.hide b') n ρ h' v a := by
  cases x with
  | d r => exact .d (r.to hb fun b o e hc hs hn => let ⟨_, _, hd⟩ := hs; t.still hP e (.tuple hc hd) fun _ => hn)
  | ref hi => exact .ref hi
  | exc h1 h2 h3 h4 h5 => exact .exc h1 (t.still hP h2 (.fields (by rw [h3]; exact fun e => nomatch e) (by rw [h3]; exact fun _ _ e => nomatch e) h4) (by rw [h3]; exact fun e => nomatch e)) h3 h4 h5
  | glob h1 => exact .glob h1
  | rng h1 h2 => exact .rng (t.still hP h1 (.fields (show Value.type "range" ≠ .type "list" by decide) (show ∀ T ∈ iterTypes, Value.type "range" ≠ .type T by decide) rfl) (fun e => absurd e (show Value.type "range" ≠ .type "tuple" by decide))) h2
theorem HasAll.turn {vs : List V} {as : List Value} (x : HasAll X n ρ h vs as) (hb : ∀ b o, h.get? b = some o → b' b → X.bad b) (t : Turn P h h') (hP : ∀ b o, P b → h.get? b = some o → PObj X b o) : HasAll (X.hide b') n ρ h' vs as := by
  induction x with
  | nil => exact .nil
  | cons h1 _ ih => exact .cons (h1.turn hb t hP) ih
theorem Rep.turn (R : Rep X ρ σ h) (hb : ∀ b o, h.get? b = some o → b' b → X.bad b) (t : Turn P h h') (hP : ∀ b o, P b → h.get? b = some o → PObj X b o) (hB : ∀ b, P b → X.B.get? b = none)
    (hbad : ∀ b, b' b → ∃ o vs n, h'.get? b = some o ∧ o.cls = .type "tuple" ∧ o.data = .seq vs n) : Rep (X.hide b') ρ σ h' where
  base := fun b o e => t.keep b o (fun q => by have e' : X.B.get? b = some o := e; rw [hB b q] at e'; cases e') (R.base b o e)
  cell := fun i c e => by
    obtain ⟨oc, items, hp, sh, ha⟩ := R.cell i c e
    refine ⟨oc, items, t.keep _ _ (fun q => ?_) hp, sh, ha.turn hb t hP⟩
    have po := hP _ _ q hp
    rcases sh.is with ⟨q1, _⟩ | ⟨_, es, n, q1⟩
    · exact po.nolist q1
    · exact po.nodict es n q1
  own := R.own
  inj := R.inj
  bad := hbad
theorem Frm.turn {env : Env} {sc : Kinds} {m : Loc} (F : Frm X env sc m n ρ h) (hb : ∀ b o, h.get? b = some o → b' b → X.bad b) (t : Turn P h h') (hP : ∀ b o, P b → h.get? b = some o → PObj X b o) : Frm (X.hide b') env sc m n ρ h' := by
  have hc : ∀ c ov, h.IsCell c ov → h'.IsCell c ov := fun c ov ⟨o, e, d⟩ => ⟨o, t.keep _ _ (fun q => (hP _ _ q e).nocell _ d) e, d⟩
  refine { kind := F.kind, glob := F.glob, bi := F.bi, kinds := F.kinds, ns := ?_, cells := ?_, isCells := ?_, sepL := F.sepL, newL := F.newL, newC := F.newC, apart := F.apart }
  · obtain ⟨mm, ⟨o, es, ep, e, d, r⟩, hm⟩ := F.ns
    exact ⟨mm, ⟨o, es, ep, t.keep _ _ (fun q => (hP _ _ q e).nodict es ep d) e, d, r⟩, fun x v h1 h2 => let ⟨a, h3, h4⟩ := hm x v h1 h2; ⟨a, h3, h4.turn hb t hP⟩⟩
  · intro x hx
    obtain ⟨c, ov, h1, h2, h3⟩ := F.cells x hx
    exact ⟨c, ov, h1, hc c ov h2, fun v hv => let ⟨a, h4, h5⟩ := h3 v hv; ⟨a, h4, h5.turn hb t hP⟩⟩
  · intro x c hx
    obtain ⟨ov, h1⟩ := F.isCells x c hx
    exact ⟨ov, hc c ov h1⟩
theorem Ar.turn {k : Nat} {A : Around} {env : Env} (a : Ar X k A env h) (t : Turn P h h') (hP : ∀ b o, P b → h.get? b = some o → PObj X b o) : Ar (X.hide b') k A env h' := by
  refine ⟨a.handled, a.depth, a.units, ?_⟩
  obtain ⟨f, ou, h1, h2, h3⟩ := a.stack
  refine ⟨f, ou, h1, h2, fun env he => ?_⟩
  obtain ⟨q1, L, o', es, n, q2, q3, q4, q5⟩ := h3 env he
  exact ⟨q1, L, o', es, n, q2, q3, t.keep _ _ (fun q => (hP _ _ q q4).nodict es n q5) q4, q5⟩
theorem Go.turn {W : Addr → Prop} {σ' : Store} {ρ' : Nat → Addr} {h₀ : Heap} (g : Go W σ ρ h₀ σ' ρ' h) (t : Turn P h h') (hnew : ∀ b, P b → h₀.objs.size ≤ b) : Go W σ ρ h₀ σ' ρ' h' where
  size := Nat.le_trans g.size t.size
  keep := fun b o e hw hb => let ⟨sl, e1, f1⟩ := g.keep b o e hw hb; ⟨sl, t.keep _ _ (fun q => absurd (Heap.lt_size e) (Nat.not_lt.mpr (hnew b q))) e1, f1⟩
  dicts := fun b o es n e d => let ⟨o', es', n', e', d'⟩ := g.dicts b o es n e d; ⟨o', es', n', t.keep _ _ (fun q => absurd (Heap.lt_size e) (Nat.not_lt.mpr (hnew b q))) e', d'⟩
  len := g.len
  ext := g.ext
  new := g.new
theorem Flies.hide {c : Str} {fr : Option Addr} {sz : Nat} {e : Addr} (x : Flies (X.hide b') c fr sz e h) : Flies X c fr sz e h := ⟨x.ex, x.new⟩
theorem Go.obj {W : Addr → Prop} {σ' : Store} {ρ' : Nat → Addr} (g : Go W σ ρ h σ' ρ' h') (R : Rep X ρ σ h) (w : WOk W h) {b : Addr} {o : Obj} (e : h.get? b = some o) (hd : NoDict o) (hc : ∀ v, o.data ≠ .cell v) (hl : o.cls ≠ .type "list") : h'.get? b = some o := by
  have hnw : ¬ W b := fun q => by
    rcases w b o q e with ⟨es, n, q⟩ | ⟨v, q⟩
    · exact hd es n q
    · exact hc v q
  obtain ⟨sl, e1, f1⟩ := g.keep b o e hnw (R.notCell e hl hd)
  rw [f1 hd] at e1
  exact e1
end
theorem zipApart_of {S l1 l2 : Nat} (h1 : l1 < S) (h2 : l2 < S) : ZipApart (S + 4) (S + 2) (S + 3) S (S + 1) l1 l2 where
  TIz := Nat.ne_of_lt (by omega)
  TOz := Nat.ne_of_lt (by omega)
  i1z := Nat.ne_of_lt (by omega)
  i2z := Nat.ne_of_lt (by omega)
  TITO := Nat.ne_of_lt (by omega)
  TIi1 := Nat.ne_of_gt (by omega)
  TIi2 := Nat.ne_of_gt (by omega)
  TOi1 := Nat.ne_of_gt (by omega)
  TOi2 := Nat.ne_of_gt (by omega)
  i12 := Nat.ne_of_lt (by omega)
  l1z := Nat.ne_of_lt (by omega)
  l1TO := Nat.ne_of_lt (by omega)
  l1i1 := Nat.ne_of_lt (by omega)
  l1i2 := Nat.ne_of_lt (by omega)
  l2z := Nat.ne_of_lt (by omega)
  l2TO := Nat.ne_of_lt (by omega)
  l2i1 := Nat.ne_of_lt (by omega)
  l2i2 := Nat.ne_of_lt (by omega)
noncomputable def ZipP (z TO i1 i2 : Addr) : Addr → Prop := fun b => b = z ∨ b = TO ∨ b = i1 ∨ b = i2
theorem zipP_new {S : Nat} {b : Nat} (h : ZipP (S + 4) (S + 3) S (S + 1) b) : S ≤ b := by
  rcases h with q | q | q | q
  · have q : b = S + 4 := q; omega
  · have q : b = S + 3 := q; omega
  · have q : b = S := q; omega
  · have q : b = S + 1 := q; omega
theorem zipP_ti {S : Nat} : ¬ ZipP (S + 4) (S + 3) S (S + 1) (S + 2) := by
  rintro (q | q | q | q)
  · have q : S + 2 = S + 4 := q; omega
  · have q : S + 2 = S + 3 := q; omega
  · have q : S + 2 = S := q; omega
  · have q : S + 2 = S + 1 := q; omega
end Mine

set_option Elab.async false
set_option autoImplicit false
set_option linter.unusedVariables false
namespace Mine
open PySem PySem.Spec PySem.Calls PyProof.Rows
section
variable {X : Cx} {k : Nat} {env : Env} {sc : Kinds} {m : Loc} {σ : Store} {K : OutS → Prop} {A : Around} {s : Shared} {ρ : Nat → Addr} {E : Value → Shared → Prop} {Q : Flow → Shared → Prop} {p q : Pos}
noncomputable def OkN (X : Cx) (env : Env) (sc : Kinds) (σ : Store) (ρ : Nat → Addr) (s : Shared) (K : OutS → Prop) (Q : Flow → Shared → Prop) : Prop :=
  ∀ m' σ' ρ' h' tk, K (.next m' σ') → Rep X ρ' σ' h' → Go (Wr env) σ ρ s.heap σ' ρ' h' → Frm X env sc m' σ'.length ρ' h' → Q .next { s with heap := h', toks := tk }
noncomputable def OkR (X : Cx) (env : Env) (sc : Kinds) (σ : Store) (ρ : Nat → Addr) (s : Shared) (K : OutS → Prop) (Q : Flow → Shared → Prop) : Prop :=
  ∀ v σ' ρ' a h' tk, K (.ret v σ') → Rep X ρ' σ' h' → Go (Wr env) σ ρ s.heap σ' ρ' h' → (∃ m', Frm X env sc m' σ'.length ρ' h') → Has X σ'.length ρ' h' v a → Q (.ret a) { s with heap := h', toks := tk }
noncomputable def ErS (X : Cx) (env : Env) (sc : Kinds) (σ : Store) (ρ : Nat → Addr) (s : Shared) (K : OutS → Prop) (E : Value → Shared → Prop) : Prop :=
  ∀ c m' σ' ρ' e h' tk, K (.exn c m' σ') → Rep X ρ' σ' h' → Go (Wr env) σ ρ s.heap σ' ρ' h' → Frm X env sc m' σ'.length ρ' h' → Flies X c env.frame s.heap.objs.size e h' → E (.ref e) { s with heap := h', toks := tk }
theorem OkN.after {σ₁ : Store} {ρ₁ : Nat → Addr} {h₁ : Heap} {tk : Nat} (x : OkN X env sc σ ρ s K Q) (g : Go (Wr env) σ ρ s.heap σ₁ ρ₁ h₁) : OkN X env sc σ₁ ρ₁ { s with heap := h₁, toks := tk } K Q :=
  fun m' σ' ρ' h' tk' hK R' g' F' => x m' σ' ρ' h' tk' hK R' (g.trans g') F'
theorem OkR.after {σ₁ : Store} {ρ₁ : Nat → Addr} {h₁ : Heap} {tk : Nat} (x : OkR X env sc σ ρ s K Q) (g : Go (Wr env) σ ρ s.heap σ₁ ρ₁ h₁) : OkR X env sc σ₁ ρ₁ { s with heap := h₁, toks := tk } K Q :=
  fun v σ' ρ' a h' tk' hK R' g' hF hv => x v σ' ρ' a h' tk' hK R' (g.trans g') hF hv
theorem ErS.after {σ₁ : Store} {ρ₁ : Nat → Addr} {h₁ : Heap} {tk : Nat} (x : ErS X env sc σ ρ s K E) (g : Go (Wr env) σ ρ s.heap σ₁ ρ₁ h₁) : ErS X env sc σ₁ ρ₁ { s with heap := h₁, toks := tk } K E :=
  fun c m' σ' ρ' e h' tk' hK R' g' F' fl => x c m' σ' ρ' e h' tk' hK R' (g.trans g') F' (fl.sz g.size)
theorem Go.up {σ₁ : Store} {ρ₁ : Nat → Addr} {h₁ h : Heap} {W : Addr → Prop} (g : Go Nowhere σ ρ h σ₁ ρ₁ h₁) : Go W σ ρ h σ₁ ρ₁ h₁ := g.weaken fun _ _ _ q => q.elim
theorem ErS.lift (x : ErS X env sc σ ρ s K E) (R : Rep X ρ σ s.heap) (F : Frm X env sc m σ.length ρ s.heap) : ErE X env.frame σ ρ s (liftS K m) E :=
  fun c σ' ρ' e h' tk' hK R' g' fl => x c m σ' ρ' e h' tk' hK R' g'.up (F.go R g') fl
theorem swaps_no {v : Expr} {t : Option Expr} {l : Nat} (h : (∀ a b c d, v ≠ .ListComp a b c d) ∧ (∀ a b c d, v ≠ .SetComp a b c d) ∧ (∀ a b c d e, v ≠ .DictComp a b c d e)) : swapsWith v t l env = pure false := by
  unfold swapsWith
  cases v <;> first | rfl | exact absurd rfl (h.1 _ _ _ _) | exact absurd rfl (h.2.1 _ _ _ _) | exact absurd rfl (h.2.2 _ _ _ _ _)
theorem swaps_noComp {v : Expr} {t : Option Expr} {l : Nat} (h : noComp v = true) : swapsWith v t l env = pure false :=
  swaps_no ⟨fun _ _ _ _ q => by subst q; simp [noComp] at h, fun _ _ _ _ q => by subst q; simp [noComp] at h, fun _ _ _ _ _ q => by subst q; simp [noComp] at h⟩
theorem swaps_comp {elt : Expr} {gens : List Comprehension} {scope : Scope} {p p' : Pos} {x : Str} {l : Nat} : ∃ b, swapsWith (.ListComp elt gens scope p) (some (.Name x p')) l env = pure b ∧ (b = true → env.kindOf x = some .local) := by
  refine ⟨env.blockKind == .function && env.kindOf x == some .local && p'.line == (Expr.ListComp elt gens scope p).pos.line && !(scope.names.any fun (n, k) => n == x && (k == .local || k == .cell)), rfl, fun h => ?_⟩
  simp only [Bool.and_eq_true, beq_iff_eq] at h
  exact h.1.1.2
theorem zqh (h : K (.next m σ)) : SS X k env sc (execs [] env) m σ K := fun A s ρ Q E ar R F hn hr er => wpAny_execs_nil (hn m σ ρ s.heap s.toks h R (.refl ..) F)
theorem zqf {st : Stmt} {r : List Stmt} (hw : SS X k env sc (exec st env) m σ (loopS K fun m σ => SS X k env sc (execs r env) m σ K)) : SS X k env sc (execs (st :: r) env) m σ K := by
  intro A s ρ Q E ar R F hn hr er
  refine wpAny_execs_cons (hw A s ρ _ E ar R F (fun m₁ σ₁ ρ₁ h₁ tk hf R₁ g₁ F₁ => ?_) (fun v σ₁ ρ₁ a h₁ tk hf R₁ g₁ hF hv => hr v σ₁ ρ₁ a h₁ tk hf R₁ g₁ hF hv) er)
  exact (show SS X k env sc (execs r env) m₁ σ₁ K from hf) A { s with heap := h₁, toks := tk } ρ₁ Q E (ar.go g₁) R₁ F₁ (OkN.after (σ := σ) (ρ := ρ) (s := s) hn g₁) (OkR.after (σ := σ) (ρ := ρ) (s := s) hr g₁) (ErS.after (σ := σ) (ρ := ρ) (s := s) er g₁)
theorem zqcg {e : Expr} (h : SE X k env sc (eval e env) m σ (thenE (liftS K m) fun v σ => K (.ret v σ))) : SS X k env sc (exec (.Return (some e) p) env) m σ K := fun A s ρ Q E ar R F hn hr er =>
  wpAny_Return_some (h A s ρ _ E ar R F (fun v σ₁ ρ₁ a h₁ tk hf R₁ g₁ hv => hr v σ₁ ρ₁ a h₁ tk hf R₁ g₁.up ⟨m, F.go R g₁⟩ hv) (ErS.lift (sc := sc) er R F))
theorem zqw {x : Str} {v : Expr} (hb : bindable sc x) (hsw : swapsWith v (some (.Name x q)) p.line env = pure false) (hw : SE X k env sc (eval v env) m σ (thenE (liftS K m) fun v σ => K (.next (upd m x v) σ))) : SS X k env sc (exec (.Assign [.Name x q] v p) env) m σ K := by
  intro A s ρ Q E ar R F hn hr er
  refine wpAny_Assign_Name (SE.andThen hw ar R F (ErS.lift (sc := sc) er R F) fun w σ₁ ρ₁ a h₁ tk hf R₁ g₁ hv ar₁ F₁ => ?_) hsw
  exact store_sound (s := { s with heap := h₁, toks := tk }) R₁ F₁ hb hv fun h₂ tk₂ R₂ g₂ F₂ => hn _ _ _ _ _ hf R₂ (g₁.up.trans g₂) F₂
theorem zqr {x : Str} {v : Expr} (h1 : isBindB sc x = true) (h2 : noComp v = true) (hw : SE X k env sc (eval v env) m σ (thenE (liftS K m) fun v σ => K (.next (upd m x v) σ))) : SS X k env sc (exec (.Assign [.Name x q] v p) env) m σ K := zqw (isBind h1) (swaps_noComp h2) hw
theorem zqal {x y : Str} {elt iter : Expr} {ifs : List Expr} {scope : Scope} {py pq : Pos} (h1 : isBindB sc x = true) (hc0 : 100 ≤ k) (h2 : noSet iter = true) (h3 : compOkB sc scope y = true)
    (hw : SE X k env sc (eval iter env) m σ (thenE (thenE (liftS K m) fun v σ => K (.next (upd m x v) σ)) fun src σ => ∃ (N : Nat) (I : Nat → List V → Store → Prop), N ≤ 1000000 ∧ I 0 [] σ ∧
          (∀ j acc σ, j < N → I j acc σ → ∃ v, srcNext σ src j = some (some v) ∧ acc.length ≤ j ∧ ∀ env',
            SIfs X k env' (kindsOf scope.names) ifs (upd (compLoc scope.names m) y v) σ fun b σ => if b then SE X k env' (kindsOf scope.names) (eval elt env') (upd (compLoc scope.names m) y v) σ (noExn fun w σ => I (j + 1) (acc ++ [w]) σ) else I (j + 1) acc σ) ∧
          (∀ acc σ, I N acc σ → srcNext σ src N = some none ∧ (thenE (liftS K m) fun v σ => K (.next (upd m x v) σ)) (.val (.ref σ.length) (σ ++ [.lst acc]))))) : SS X k env sc (exec (.Assign [.Name x q] (.ListComp elt [⟨.Name y py, iter, ifs, 0⟩] scope pq) p) env) m σ K := by
  obtain ⟨b, hsw, hloc⟩ := swaps_comp (env := env) (elt := elt) (gens := [⟨.Name y py, iter, ifs, 0⟩]) (scope := scope) (p := pq) (p' := q) (x := x) (l := p.line)
  cases b with
  | false => exact zqw (isBind h1) hsw (zqn hc0 h2 h3 hw)
  | true =>
    have hb := isBind h1
    intro A s ρ Q E ar R F hn hr er
    have er' : ErE X env.frame σ ρ s (liftS K m) E := ErS.lift (sc := sc) er R F
    rw [exec_Assign_Name_used _ _ _ _ hsw]
    refine wpAny_bind (wpAny_standAt (wpAny_bind ?_))
    show wpAny _ A (do let _ ← comprehension (.ListComp elt [⟨.Name y py, iter, ifs, 0⟩] scope pq) scope env _ (newList []) false (eval iter env) (some (assign (.Name x q) env))) _ _ s
    refine wpAny_bind (wpAny_mono (comp_core (use := some (assign (.Name x q) env)) (Q := fun _ s' => Q .next s') hc0 (compOk_of h3) h2 hw ar R F (show ErE X env.frame σ ρ s (thenE (liftS K m) fun v σ => K (.next (upd m x v) σ)) E from fun c => er' c) ?_) (fun _ s' hq => wpAny_pure (wpAny_pure hq)) fun _ _ e => e)
    intro acc σ' ρ' C h' tk mC hK R' g' hns hC hsep hB
    have F' := F.go R g'
    show wpAny _ A (assign (.Name x q) env (.ref (ρ' σ'.length))) _ _ _
    refine wpAny_assign_Name (store_sound (s := { s with heap := h', toks := tk }) R' F' hb (.ref (by simp)) fun h₂ tk₂ R₂ g₂ F₂ => ?_)
    have hCL : C ≠ env.locals := fun q => by
      obtain ⟨_, ⟨o, es, ep, e, _⟩, _⟩ := F.ns
      exact absurd (q ▸ Heap.lt_size e) (Nat.not_lt.mpr hC)
    have hCW : ¬ Wr env C := by
      rintro (q | ⟨z, hz⟩)
      · exact hCL q
      · obtain ⟨ov, o, e, _⟩ := F.isCells z C hz
        exact absurd (Heap.lt_size e) (Nat.not_lt.mpr hC)
    obtain ⟨oC, es, ep, eC, dC, rC⟩ := hns
    obtain ⟨sl, eC2, _⟩ := g₂.keep C oC eC hCW fun i hi q => hsep i hi q.symm
    refine ⟨mC, ⟨_, es, ep, eC2, dC, rC⟩, fun h₃ hsb => ?_⟩
    have ex := Ext1.ofSame hsb
    have hnS : ∀ o, h₂.get? C = some o → ¬ Still o := fun o e => by rw [eC2] at e; cases e; exact Still.notNs dC
    have st := ex.still' hnS
    refine hn _ _ ρ' h₃ tk₂ hK (R₂.but ex hnS hsep hB) ((g'.up.trans g₂).ext1 ex hC) ?_
    have hv' : ∀ {v a}, Has X (σ' ++ [Cell.lst acc]).length ρ' h₂ v a → Has X (σ' ++ [Cell.lst acc]).length ρ' h₃ v a := fun q => q.mono (Nat.le_refl _) (fun _ _ => rfl) st
    have hc : ∀ z c ov, env.cells.lookup z = some c → h₂.IsCell c ov → h₃.IsCell c ov := fun z c ov hz ⟨o', e', d⟩ => ⟨o', ex.keep _ _ (fun q => hCW (.inr ⟨z, q ▸ hz⟩)) e', d⟩
    refine { F₂ with ns := ?_, cells := ?_, isCells := ?_ }
    · obtain ⟨mm, ⟨o', es', ep', e', d', r'⟩, hm⟩ := F₂.ns
      exact ⟨mm, ⟨o', es', ep', ex.keep _ _ (Ne.symm hCL) e', d', r'⟩, fun y v h1 h2 => let ⟨a, h3, h4⟩ := hm y v h1 h2; ⟨a, h3, hv' h4⟩⟩
    · intro y hy
      obtain ⟨c, ov, h1, h2, h3⟩ := F₂.cells y hy
      exact ⟨c, ov, h1, hc y c ov h1 h2, fun v q => let ⟨a, h4, h5⟩ := h3 v q; ⟨a, h4, hv' h5⟩⟩
    · intro y c hy
      obtain ⟨ov, h1⟩ := F₂.isCells y c hy
      exact ⟨ov, hc y c ov hy h1⟩
theorem zqcb {o i e : Expr} (hnc : noComp e = true) (hw : SE X k env sc (eval e env) m σ (thenE (liftS K m) fun w σ => SE X k env sc (eval o env) m σ (thenE (liftS K m) fun ov σ => SE X k env sc (eval i env) m σ (thenE (liftS K m) fun iv σ => setW X ov iv w σ fun σ => K (.next m σ))))) :
    SS X k env sc (exec (.Assign [.Subscript o i q] e p) env) m σ K := by
  intro A s ρ Q E ar R F hn hr er
  have er' : ErE X env.frame σ ρ s (liftS K m) E := ErS.lift (sc := sc) er R F
  refine wpAny_Assign_Subscript (SE.andThen hw ar R F er' fun w σ₁ ρ₁ a h₁ tk hf R₁ g₁ hv ar₁ F₁ => ?_) (swaps_noComp hnc)
  refine SE.andThen (s := { s with heap := h₁, toks := tk }) hf ar₁ R₁ F₁ (er'.after g₁) fun ov σ₂ ρ₂ vo h₂ tk₂ hf₂ R₂ g₂ ho ar₂ F₂ => ?_
  refine SE.andThen (s := { s with heap := h₂, toks := tk₂ }) hf₂ ar₂ R₂ F₂ ((er'.after g₁).after g₂) fun iv σ₃ ρ₃ vi h₃ tk₃ hf₃ R₃ g₃ hi ar₃ F₃ => ?_
  refine set_sound (s := { s with heap := h₃, toks := tk₃ }) hf₃ R₃ (ho.go R₂ g₃ .nowhere) hi ((hv.go R₁ g₂ .nowhere).go R₂ g₃ .nowhere) fun σ₄ h₄ hK R₄ g₄ => ?_
  exact hn m σ₄ ρ₃ h₄ tk₃ hK R₄ (((g₁.trans g₂).trans g₃).trans g₄).up (F₃.go R₃ g₄)
theorem zqaj {e : Expr} (h1 : noComp e = true) (hw : SE X k env sc (eval e env) m σ (thenE (liftS K m) fun _ σ => K (.next m σ))) : SS X k env sc (exec (.Expr e p) env) m σ K := by
  intro A s ρ Q E ar R F hn hr er
  refine wpAny_Expr_any (SE.andThen hw ar R F (ErS.lift (sc := sc) er R F) fun w σ₁ ρ₁ a h₁ tk hf R₁ g₁ hv ar₁ F₁ => hn m σ₁ ρ₁ h₁ tk hf R₁ g₁.up F₁) ?_ (swaps_noComp h1)
  unfold interactive; rw [F.kind]; rfl
theorem zqbx {t : Expr} {b e : List Stmt} (hw : SV X k env sc t m σ (liftS K m) fun c σ => (c = true → SS X k env sc (execs b env) m σ K) ∧ (c = false → SS X k env sc (execs e env) m σ K)) : SS X k env sc (exec (.If t b e p) env) m σ K := by
  intro A s ρ Q E ar R F hn hr er
  refine wpAny_If (hw A s ρ _ E ar R F (fun c σ₁ ρ₁ h₁ tk hf R₁ g₁ ar₁ F₁ => ?_) (ErS.lift (sc := sc) er R F))
  cases c with
  | true => exact hf.1 rfl A { s with heap := h₁, toks := tk } ρ₁ Q E ar₁ R₁ F₁ (OkN.after (σ := σ) (ρ := ρ) (s := s) hn g₁.up) (OkR.after (σ := σ) (ρ := ρ) (s := s) hr g₁.up) (ErS.after (σ := σ) (ρ := ρ) (s := s) er g₁.up)
  | false => exact hf.2 rfl A { s with heap := h₁, toks := tk } ρ₁ Q E ar₁ R₁ F₁ (OkN.after (σ := σ) (ρ := ρ) (s := s) hn g₁.up) (OkR.after (σ := σ) (ρ := ρ) (s := s) hr g₁.up) (ErS.after (σ := σ) (ρ := ρ) (s := s) er g₁.up)
theorem zqaz {c x : Str} {j : Nat} {p1 p2 p3 p4 : Pos} (cx : CxOk X) (h1 : isGlobB sc c = true) (h2 : 100 ≤ k) (h3 : ExcOk X c) (h : K (.exn c m σ)) : SS X k env sc (exec (.Raise (some (.Call (.Name c p1) [.Constant (.str x) j p2] [] p3)) none p4) env) m σ K := by
  intro A s ρ Q E ar R F hn hr er
  obtain ⟨C, O⟩ := h3
  exact raise_sound cx (ar.handled h2) R F O (isGlob h1) fun e h' tk R' g' F' fl => er _ m σ ρ e h' tk h R' g'.up F' fl
theorem zqao {x : Str} {it : Expr} {body : List Stmt} (h1 : isBindB sc x = true) (hroom : 100 ≤ k) (hset : noSet it = true)
    (hw : SE X k env sc (eval it env) m σ (thenE (liftS K m) fun src σ => ∃ (N : Nat) (I : Nat → Loc → Store → Prop), I 0 m σ ∧
          (∀ j m σ, j < N → I j m σ → ∃ v, srcNext σ src j = some (some v) ∧ SS X k env sc (execs body env) (upd m x v) σ (loopN K (I (j + 1)))) ∧
          (∀ m σ, I N m σ → srcNext σ src N = some none ∧ K (.next m σ)))) :
    SS X k env sc (exec (.For (.Name x q) it body [] p) env) m σ K := by
  have hb := isBind h1
  intro A s ρ Q E ar R F hn hr er
  have er' : ErE X env.frame σ ρ s (liftS K m) E := ErS.lift (sc := sc) er R F
  refine wpAny_For (SE.andThen hw ar R F er' fun src σ₁ ρ₁ a h₁ tk₁ hf R₁ g₁ hsrc ar₁ F₁ => ?_) (fun v => foldedSet_no hset v)
  obtain ⟨N, I, h0, hstep, hend⟩ := hf
  have hIs : IsSrc σ₁ src := by
    by_cases hN0 : 0 < N
    · obtain ⟨v, hv, _⟩ := hstep 0 m σ₁ hN0 h0
      exact isSrc_of hv
    · have : N = 0 := by omega
      subst this
      exact isSrc_of (hend m σ₁ h0).1
  have hso := srcOk_of hsrc
  refine iter_sound (s := { s with heap := h₁, toks := tk₁ }) hIs R₁ hsrc fun h₂ it₂ hpush => ?_
  obtain ⟨o₂, rfl⟩ := hpush
  dsimp only at it₂ ⊢
  generalize hIa : h₁.objs.size = Ia at *
  obtain ⟨R₂, g₂⟩ := R₁.push (W := Nowhere) o₂
  have hbase : X.B.get? Ia = none := by
    cases e : X.B.get? Ia with
    | none => rfl
    | some o => exact absurd (Heap.lt_size (R₁.base _ _ e)) (by rw [hIa]; exact Nat.lt_irrefl _)
  refine codeAny_forLoop (fun c s' => ∃ kk m' σ' ρ' h' tk, s' = { s with heap := h', toks := tk } ∧ kk ≤ N ∧ c = N + 1 - kk ∧ I kk m' σ' ∧ Rep X ρ' σ' h' ∧ Go (Wr env) σ₁ ρ₁ h₁ σ' ρ' h' ∧
      Frm X env sc m' σ'.length ρ' h' ∧ IterAt X.bad ρ' h' Ia kk src ∧ Ar X k A env h') ?_ (N + 1) ⟨0, m, σ₁, ρ₁, _, tk₁, rfl, Nat.zero_le _, rfl, h0, R₂, g₂.up, F₁.go R₁ g₂, it₂, ar₁.go g₂⟩
  rintro c s' ⟨kk, m', σ', ρ', h', tk, rfl, hkk, rfl, hI, R', g', F', it', ar'⟩
  have hso' : SrcOk σ'.length src := by
    cases src <;> first | exact trivial | exact Nat.lt_of_lt_of_le hso g'.len
  obtain ⟨oI, eI, hoI⟩ := it'.obj
  by_cases hlt : kk < N
  · obtain ⟨v, hnx, hbody⟩ := hstep kk m' σ' hlt hI
    refine next_sound (s := { s with heap := h', toks := tk }) (ar'.handled hroom) R' it' hso' hnx ?_ ?_
    · rintro v' a h₄ tk₄ hv' hhas it₄ ex
      cases hv'
      have R₄ := R'.ext1 ex eI hoI hbase
      have F₄ := F'.ext1 ex eI hoI
      have ar₄ := ar'.ext1 ex eI hoI
      have g₄ := g'.ext1 ex (Nat.le_of_eq hIa)
      refine wpAny_assign_Name (store_sound (s := { s with heap := h₄, toks := tk₄ }) R₄ F₄ hb hhas fun h₅ tk₅ R₅ g₅ F₅ => ?_)
      have G₅ := g₄.trans g₅
      have it₅ := it₄.go hso' R₄ g₅ F₄.wok
      refine hbody A { s with heap := h₅, toks := tk₅ } ρ' _ _ (ar₄.go g₅) R₅ F₅ (fun m₆ σ₆ ρ₆ h₆ tk₆ hI₆ R₆ g₆ F₆ => ?_) (fun w σ₆ ρ₆ a₆ h₆ tk₆ hK R₆ g₆ hF₆ hw₆ => ?_) fun _ _ _ _ _ _ _ hK => hK.elim
      · exact ⟨N + 1 - (kk + 1), by omega, kk + 1, m₆, σ₆, ρ₆, h₆, tk₆, rfl, hlt, rfl, hI₆, R₆, G₅.trans g₆, F₆, it₅.go hso' R₅ g₆ F₅.wok, (ar₄.go g₅).go g₆⟩
      · exact hr w σ₆ ρ₆ a₆ h₆ tk₆ hK R₆ (g₁.up.trans (G₅.trans g₆)) hF₆ hw₆
    · intro h₄ tk₄ hr; cases hr
  · have hkN : kk = N := by omega
    subst hkN
    obtain ⟨hnx, hK⟩ := hend m' σ' hI
    refine next_sound (s := { s with heap := h', toks := tk }) (ar'.handled hroom) R' it' hso' hnx (fun _ _ _ _ hr => by cases hr) fun h₄ tk₄ _ ex => ?_
    refine wpAny_execs_nil ?_
    exact hn m' σ' ρ' h₄ tk₄ hK (R'.ext1 ex eI hoI hbase) (g₁.up.trans (g'.ext1 ex (Nat.le_of_eq hIa))) (F'.ext1 ex eI hoI)
theorem camesBack {s : Shared} {tk : Nat} {σ' : Store} {ρ' : Nat → Addr} {m' : Loc} {c : Str} {e L : Addr} {h₉ : Heap} {E : Value → Shared → Prop} (ar : Ar X k A env h₉) (R' : Rep X ρ' σ' h₉) (F' : Frm X env sc m' σ'.length ρ' h₉) (g : Go (Wr env) σ ρ s.heap σ' ρ' h₉) (fl : Flies X c env.frame s.heap.objs.size e h₉)
    (R : Rep X ρ σ s.heap) (hfr : env.frame = some L)
    (hE : ∀ (D : Addr → Prop) h', Rep X ρ' σ' h' → Go (Wr env) σ ρ s.heap σ' ρ' h' → Frm X env sc m' σ'.length ρ' h' → Flies X c env.frame s.heap.objs.size e h' → E (.ref e) { s with heap := h', toks := tk }) :
    notedBy (model X.prog X.w) A env (fun x s' => cameBackBy (model X.prog X.w) A env E x s') (.ref e) { s with heap := h₉, toks := tk } := by
  have hlt : ∀ b o, X.B.get? b = some o → b < s.heap.objs.size := fun b o q => Heap.lt_size (R.base b o q)
  unfold notedBy
  refine note_sound (s := { s with heap := h₉, toks := tk }) ar hfr fl g.size fun D₂ h₂ dok₂ hD₂ f₂ x₂ => ?_
  unfold cameBackBy
  obtain ⟨C, oe, vs, T, oT, ts, hm, he, hc, hd, hT, hrest⟩ := x₂.ex
  refine wpAny_bind (wpAny_field he hd.1 hT ?_)
  rw [if_neg (show ¬ ((Value.ref T == Value.none) = true) from by simp)]
  have fin : wpAny (model X.prog X.w) A (setFlight (.ref e) env.frame) (fun _ s'' => E (.ref e) s'') E { s with heap := h₂, toks := tk } := by
    rw [hfr]
    refine flight_sound (s := { s with heap := h₂, toks := tk }) (fr := some L) x₂ rfl fun D₃ h₃ dok₃ hD₃ f₃ x₃ => ?_
    have R₃ := (R'.fl dok₂ f₂ (base_notD (h := h₉) hD₂ hlt)).fl dok₃ f₃ (base_notD (h := h₉) hD₃ hlt)
    exact hE D₃ h₃ R₃ ((g.fl f₂ hD₂).fl f₃ hD₃) ((F'.fl dok₂ f₂).fl dok₃ f₃) (by rw [hfr]; exact FliesT.flies x₃)
  first
    | exact fin
    | exact wpAny_bind (wpAny_pure fin)
structure ZipAt (h : Heap) (z TI TO i1 i2 l1 l2 : Addr) (k : Nat) : Prop where
  zip : IsZip h z TI TO .none
  ti : IsPair h TI (.ref i1) (.ref i2)
  to : ∃ a b, IsPair h TO a b
  it1 : h.IsListIter i1 l1 k
  it2 : h.IsListIter i2 l2 k
theorem ZipAt.keep {h h' : Heap} {z TI TO i1 i2 l1 l2 : Addr} {k : Nat} (x : ZipAt h z TI TO i1 i2 l1 l2 k) (hk : ∀ b o, h.get? b = some o → NoDict o → (∀ v, o.data ≠ .cell v) → o.cls ≠ .type "list" → h'.get? b = some o) : ZipAt h' z TI TO i1 i2 l1 l2 k := by
  obtain ⟨hz, hti, ⟨a, b, hto⟩, h1, h2⟩ := x
  obtain ⟨o1, e1, c1, d1⟩ := h1
  obtain ⟨o2, e2, c2, d2⟩ := h2
  exact ⟨hk _ _ hz (fun _ _ q => nomatch q) (fun _ q => nomatch q) (show Value.type "zip" ≠ .type "list" by decide), hk _ _ hti (fun _ _ q => nomatch q) (fun _ q => nomatch q) (show Value.type "tuple" ≠ .type "list" by decide),
    ⟨a, b, hk _ _ hto (fun _ _ q => nomatch q) (fun _ q => nomatch q) (show Value.type "tuple" ≠ .type "list" by decide)⟩,
    ⟨o1, hk _ _ e1 (fun es n q => by rw [d1] at q; cases q) (fun v q => by rw [d1] at q; cases q) (by rw [c1]; decide), c1, d1⟩,
    ⟨o2, hk _ _ e2 (fun es n q => by rw [d2] at q; cases q) (fun v q => by rw [d2] at q; cases q) (by rw [c2]; decide), c2, d2⟩⟩
theorem ZipAt.pobj {X : Cx} {h : Heap} {z TI TO i1 i2 l1 l2 : Addr} {k : Nat} (x : ZipAt h z TI TO i1 i2 l1 l2 k) (hbad : X.bad TO) : ∀ b o, ZipP z TO i1 i2 b → h.get? b = some o → PObj X b o := by
  obtain ⟨hz, hti, ⟨a', b', hto⟩, h1, h2⟩ := x
  obtain ⟨o1, e1, c1, d1⟩ := h1
  obtain ⟨o2, e2, c2, d2⟩ := h2
  rintro b o (rfl | rfl | rfl | rfl) e
  · have hz' : h.get? b = _ := hz
    rw [hz'] at e; cases e
    exact ⟨fun _ _ q => (nomatch q), fun _ q => (nomatch q), show Value.type "zip" ≠ .type "list" by decide, .inl ⟨"zip", by simp [iterTypes], rfl⟩⟩
  · have hz' : h.get? b = _ := hto
    rw [hz'] at e; cases e
    exact ⟨fun _ _ q => (nomatch q), fun _ q => (nomatch q), show Value.type "tuple" ≠ .type "list" by decide, .inr ⟨rfl, hbad⟩⟩
  · rw [e1] at e; cases e
    exact ⟨(fun es n q => by rw [d1] at q; cases q), (fun v q => by rw [d1] at q; cases q), (by rw [c1]; decide), .inl ⟨"list_iterator", by simp [iterTypes], c1⟩⟩
  · rw [e2] at e; cases e
    exact ⟨(fun es n q => by rw [d2] at q; cases q), (fun v q => by rw [d2] at q; cases q), (by rw [c2]; decide), .inl ⟨"list_iterator", by simp [iterTypes], c2⟩⟩
theorem zqbw {a b : Str} {ex ey : Expr} {body : List Stmt} {x1 : Nat} {pa pb pt pz pc : Pos} (cx : CxOk X) (h1 : isBindB sc a = true) (h2 : isBindB sc b = true) (hroom : 100 ≤ k) (hz : X.val ("zip" : Str) = some (.type "zip")) (h5 : isGlobB sc ("zip" : Str) = true) (hst : [ex, ey].all noStar = true)
    (hw : SL X k env sc [ex, ey] m σ (liftS K m) fun vs σ => ∃ i j xs ys, vs = [.ref i, .ref j] ∧ itemsAt σ i = some xs ∧ itemsAt σ j = some ys ∧ ∃ (I : Nat → Loc → Store → Prop), I 0 m σ ∧
            (∀ j' m σ, j' < min xs.length ys.length → I j' m σ → ∃ x y, xs[j']? = some x ∧ ys[j']? = some y ∧ itemsAt σ i = some xs ∧ itemsAt σ j = some ys ∧ ∀ bd, SS (X.hide bd) k env sc (execs body env) (upd (upd m a x) b y) σ (loopS K (I (j' + 1)))) ∧
            (∀ m σ, I (min xs.length ys.length) m σ → (itemsAt σ i = some xs ∧ itemsAt σ j = some ys) ∧ K (.next m σ))) :
    SS X k env sc (exec (.For (.Tuple [.Name a pa, .Name b pb] x1 pt) (.Call (.Name ("zip" : Str) pz) [ex, ey] [] pc) body [] p) env) m σ K := by
  have hba := isBind h1
  have hbb := isBind h2
  intro A s ρ Q E ar R F hn hr er
  have hh : A.handled = none := ar.handled hroom
  have er' : ErE X env.frame σ ρ s (liftS K m) E := ErS.lift (sc := sc) er R F
  obtain ⟨L, hfr⟩ := ar.frame
  refine wpAny_For ?_ (fun v => foldedSet_no rfl v)
  refine wpAny_Call_NameR (glob_sound cx R F (isGlob h5) hz ?_)
  refine callWith_gen (args_noStar _ hst) Kp.type (evalArgs_gen (args_noStar _ hst) ?_)
  refine hw _ A s ρ _ E ar R F er' fun vs σ₁ ρ₁ as h₁ tk₁ hf R₁ g₁ hvs ar₁ F₁ => ⟨R₁.base, ?_⟩
  obtain ⟨i, j, xs, ys, rfl, hi, hj, I, h0, hstep, hend⟩ := hf
  have e2 : ∃ u v, as = [u, v] ∧ Has X σ₁.length ρ₁ h₁ (.ref i) u ∧ Has X σ₁.length ρ₁ h₁ (.ref j) v := by
    cases hvs with | cons q1 q2 => cases q2 with | cons q2 q3 => cases q3; exact ⟨_, _, rfl, q1, q2⟩
  obtain ⟨u, v, rfl, hu, hv⟩ := e2
  obtain ⟨hil, rfl⟩ := hu.ref_inv
  obtain ⟨hjl, rfl⟩ := hv.ref_inv
  obtain ⟨_, its1, ⟨n1, ho1⟩, _⟩ := R₁.list hi
  obtain ⟨_, its2, ⟨n2, ho2⟩, _⟩ := R₁.list hj
  refine call_zip_2 (s := { s with heap := h₁, toks := tk₁ }) (l1 := ρ₁ i) (l2 := ρ₁ j) ⟨_, ho1, rfl, n1, rfl⟩ ⟨_, ho2, rfl, n2, rfl⟩ fun h₂ hzip hTI hTO hI1 hI2 hsz₂ hk₂ => ?_
  refine wpAny_pyIter_zip (s := { s with heap := h₂, toks := tk₁ }) hzip ?_
  dsimp only at hzip hTI hTO hI1 hI2 hsz₂ hk₂ ⊢
  have l1lt : ρ₁ i < h₁.objs.size := R₁.lt hil
  have l2lt : ρ₁ j < h₁.objs.size := R₁.lt hjl
  generalize hS : h₁.objs.size = S at *
  have D : ZipApart (S + 4) (S + 2) (S + 3) S (S + 1) (ρ₁ i) (ρ₁ j) := zipApart_of l1lt l2lt
  have hdead : ∀ b, S ≤ b → X.B.get? b = none := fun b hb => by
    cases e : X.B.get? b with
    | none => rfl
    | some o => exact absurd (Heap.lt_size (R₁.base _ _ e)) (by rw [hS]; exact Nat.not_lt.mpr hb)
  have hPnew : ∀ b, ZipP (S + 4) (S + 3) S (S + 1) b → S ≤ b := fun b q => zipP_new q
  -- under the hidden tuple
  let bd : Addr → Prop := fun b => X.bad b ∨ b = S + 3
  have t₂ : Turn (fun _ => False) h₁ h₂ := ⟨by rw [hS, hsz₂]; exact Nat.le_add_right _ _, fun b o _ e => hk₂ b o e⟩
  have hb₂ : ∀ b o, h₁.get? b = some o → bd b → X.bad b := fun b o e q => q.elim id fun q => by
    have := Heap.lt_size e
    rw [hS, q] at this
    exact absurd this (Nat.not_lt.mpr (Nat.le_add_right _ _))
  have np : ∀ b o, (fun _ : Addr => False) b → h₁.get? b = some o → PObj X b o := fun _ _ q => q.elim
  have R₂ : Rep (X.hide bd) ρ₁ σ₁ h₂ := R₁.turn hb₂ t₂ np (fun _ q => q.elim) (fun b q => by
    rcases q with q | rfl
    · obtain ⟨o, vs, n, e, r⟩ := R₁.bad b q
      exact ⟨o, vs, n, hk₂ _ _ e, r⟩
    · exact ⟨_, _, _, hTO, rfl, rfl⟩)
  have F₂ : Frm (X.hide bd) env sc m σ₁.length ρ₁ h₂ := F₁.turn hb₂ t₂ np
  have ar₂ : Ar (X.hide bd) k A env h₂ := ar₁.turn t₂ np
  have g₂ : Go (Wr env) σ₁ ρ₁ h₁ σ₁ ρ₁ h₂ := .ofGrow (by rw [hS, hsz₂]; exact Nat.le_add_right _ _) hk₂
  have hbdTO : (X.hide bd).bad (S + 3) := Or.inr rfl
  -- back from under it
  have out : ∀ b o, (∀ h : Heap, h.get? b = some o → X.bad b → (X.hide bd).bad b) := fun b o h _ q => Or.inl q
  have hg₁ : s.heap.objs.size ≤ S := by rw [← hS]; exact g₁.size
  refine codeAny_forLoop_any (fun c s' => ∃ kk m' σ' ρ' h' tk, s' = { s with heap := h', toks := tk } ∧ kk ≤ min xs.length ys.length ∧ c = min xs.length ys.length + 1 - kk ∧ I kk m' σ' ∧ Rep (X.hide bd) ρ' σ' h' ∧ Go (Wr env) σ₁ ρ₁ h₁ σ' ρ' h' ∧
      Frm (X.hide bd) env sc m' σ'.length ρ' h' ∧ Ar (X.hide bd) k A env h' ∧ ZipAt h' (S + 4) (S + 2) (S + 3) S (S + 1) (ρ₁ i) (ρ₁ j) kk) ?_ (min xs.length ys.length + 1)
      ⟨0, m, σ₁, ρ₁, h₂, tk₁, rfl, Nat.zero_le _, rfl, h0, R₂, g₂, F₂, ar₂, ⟨hzip, hTI, ⟨_, _, hTO⟩, hI1, hI2⟩⟩
  rintro c s' ⟨kk, m', σ', ρ', h', tk, rfl, hkk, rfl, hI, R', g', F', ar', zp⟩
  have hρi : ρ' i = ρ₁ i := g'.ext i hil
  have hρj : ρ' j = ρ₁ j := g'.ext j hjl
  have hP' := zp.pobj (X := X.hide bd) hbdTO
  obtain ⟨to1, to2, zto⟩ := zp.to
  by_cases hlt : kk < min xs.length ys.length
  · obtain ⟨x, y, hx, hy, hi', hj', hbody⟩ := hstep kk m' σ' hlt hI
    obtain ⟨_, its1', ⟨n1', ho1'⟩, hall1⟩ := R'.list hi'
    obtain ⟨_, its2', ⟨n2', ho2'⟩, hall2⟩ := R'.list hj'
    obtain ⟨ax, hax, hhx⟩ := hall1.get hx
    obtain ⟨ay, hay, hhy⟩ := hall2.get hy
    rw [hρi] at ho1'
    rw [hρj] at ho2'
    refine wpAny_pyNext_zip_item (s := { s with heap := h', toks := tk }) D zp.zip zp.ti zto zp.it1 zp.it2 ⟨_, ho1', rfl, n1', rfl⟩ ⟨_, ho2', rfl, n2', rfl⟩ (by simpa using hax) (by simpa using hay) fun h₄ a1 a2 a3 a4 a5 a6 hk₄ => ?_
    dsimp only at a1 a2 a3 a4 a5 a6 hk₄ ⊢
    refine wpAny_letOwnedTupleGo_zip (s := { s with heap := h₄, toks := tk }) a1 fun h₅ hz₅ hs₅ => ?_
    dsimp only at hs₅
    have hzs : S + 4 < h'.objs.size := Heap.lt_size zp.zip
    have hT₅ : IsPair h₅ h'.objs.size ax ay := hs₅.extBut _ _ (Nat.ne_of_gt hzs) a5
    refine wpAny_assign_Tuple (s := { s with heap := h₅, toks := tk }) hh ⟨_, hT₅, rfl, _, rfl⟩ rfl rfl fun h₆ hx₆ => ?_
    dsimp only at hx₆
    have up₆ : ∀ b o, h₅.get? b = some o → h₆.get? b = some o := fun b o e => hx₆ b o (Nat.ne_of_lt (Heap.lt_size e)) e
    have t₆ : Turn (ZipP (S + 4) (S + 3) S (S + 1)) h' h₆ := ⟨Nat.le_of_lt (Heap.lt_size (up₆ _ _ hT₅)), fun b o hb e => up₆ _ _ (hs₅.extBut _ _ (fun q => hb (.inl q)) (hk₄ b o (fun q => hb (.inl q)) (fun q => hb (.inr (.inl q))) (fun q => hb (.inr (.inr (.inl q)))) (fun q => hb (.inr (.inr (.inr q)))) e))⟩
    have keep₆ : ∀ b o, ¬ ZipP (S + 4) (S + 3) S (S + 1) b → h'.get? b = some o → h₆.get? b = some o := t₆.keep
    have zp₆ : ZipAt h₆ (S + 4) (S + 2) (S + 3) S (S + 1) (ρ₁ i) (ρ₁ j) (kk + 1) := by
      exact ⟨up₆ _ _ hz₅, keep₆ _ _ zipP_ti zp.ti, ⟨ax, ay, up₆ _ _ (hs₅.extBut _ _ D.TOz a2)⟩, (a3.extBut hs₅.extBut D.i1z).at fun o e => up₆ _ _ e, (a4.extBut hs₅.extBut D.i2z).at fun o e => up₆ _ _ e⟩
    have R₆ : Rep (X.hide bd) ρ' σ' h₆ := R'.turn (b' := bd) (fun b o e q => q) t₆ hP' (fun b q => hdead b (hPnew b q)) (fun b q => by
      rcases q with q | rfl
      · by_cases hb3 : b = S + 3
        · subst hb3; obtain ⟨a', b', e⟩ := zp₆.to; exact ⟨_, _, _, e, rfl, rfl⟩
        · obtain ⟨o, vs, n, e, c, d⟩ := R'.bad b (Or.inl q)
          refine ⟨o, vs, n, keep₆ b o (fun w => ?_) e, c, d⟩
          rcases (hP' b o w e).hid with ⟨T, hT, hc⟩ | ⟨_, _⟩
          · rw [c] at hc; cases hc; simp [iterTypes] at hT
          · rcases w with w | w | w | w
            · rw [w] at e; have := zp.zip; rw [this] at e; cases e; cases d
            · exact hb3 w
            · obtain ⟨o1, e1, c1, _⟩ := zp.it1; rw [w, e1] at e; cases e; rw [c1] at c; exact absurd c (by decide)
            · obtain ⟨o1, e1, c1, _⟩ := zp.it2; rw [w, e1] at e; cases e; rw [c1] at c; exact absurd c (by decide)
      · obtain ⟨a', b', e⟩ := zp₆.to; exact ⟨_, _, _, e, rfl, rfl⟩)
    have F₆ : Frm (X.hide bd) env sc m' σ'.length ρ' h₆ := F'.turn (b' := bd) (fun b o e q => q) t₆ hP'
    have ar₆ : Ar (X.hide bd) k A env h₆ := ar'.turn (b' := bd) t₆ hP'
    have G₆ : Go (Wr env) σ₁ ρ₁ h₁ σ' ρ' h₆ := g'.turn t₆ (by rw [hS]; exact hPnew)
    have hx₆' : Has (X.hide bd) σ'.length ρ' h₆ x ax := hhx.turn (b' := bd) (fun b o e q => q) t₆ hP'
    have hy₆' : Has (X.hide bd) σ'.length ρ' h₆ y ay := hhy.turn (b' := bd) (fun b o e q => q) t₆ hP'
    show wpAny _ A (do holding [ay] (assign (.Name a pa) env ax); do holding [] (assign (.Name b pb) env ay); pure ()) _ _ _
    refine wpAny_bind (wpAny_holding (wpAny_assign_Name (store_sound (X := X.hide bd) (s := { s with heap := h₆, toks := tk }) R₆ F₆ hba hx₆' fun h₇ tk₇ R₇ g₇ F₇ => ?_)))
    have zp₇ := zp₆.keep fun b o e q1 q2 q3 => g₇.obj R₆ F₆.wok e q1 q2 q3
    refine wpAny_bind (wpAny_holding (wpAny_assign_Name (store_sound (X := X.hide bd) (s := { s with heap := h₇, toks := tk₇ }) R₇ F₇ hbb (hy₆'.go R₆ g₇ F₆.wok) fun h₈ tk₈ R₈ g₈ F₈ => wpAny_pure ?_)))
    have zp₈ := zp₇.keep fun b o e q1 q2 q3 => g₈.obj R₇ F₇.wok e q1 q2 q3
    have G₈ := (G₆.trans g₇).trans g₈
    have ar₈ := (ar₆.go g₇).go g₈
    refine hbody bd A { s with heap := h₈, toks := tk₈ } ρ' _ _ ar₈ R₈ F₈ (fun m₉ σ₉ ρ₉ h₉ tk₉ hI₉ R₉ g₉ F₉ => ?_) (fun w σ₉ ρ₉ a₉ h₉ tk₉ hK R₉ g₉ hF₉ hw₉ => ?_) fun cc m₉ σ₉ ρ₉ e₉ h₉ tk₉ hK R₉ g₉ F₉ fl => ?_
    · exact ⟨min xs.length ys.length + 1 - (kk + 1), by omega, kk + 1, m₉, σ₉, ρ₉, h₉, tk₉, rfl, hlt, rfl, hI₉, R₉, G₈.trans g₉, F₉, ar₈.go g₉, zp₈.keep fun b o e q1 q2 q3 => g₉.obj R₈ F₈.wok e q1 q2 q3⟩
    · have tr : Turn (fun _ => False) h₉ h₉ := ⟨Nat.le_refl _, fun _ _ _ e => e⟩
      have np' : ∀ b o, (fun _ : Addr => False) b → h₉.get? b = some o → PObj (X.hide bd) b o := fun _ _ q => q.elim
      obtain ⟨mm, hF₉⟩ := hF₉
      exact hr w σ₉ ρ₉ a₉ h₉ tk₉ hK (R₉.turn (b' := X.bad) (fun b o e q => Or.inl q) tr np' (fun _ q => q.elim) fun b q => R₉.bad b (Or.inl q)) (g₁.up.trans (G₈.trans g₉)) ⟨mm, hF₉.turn (b' := X.bad) (fun b o e q => Or.inl q) tr np'⟩ (hw₉.turn (b' := X.bad) (fun b o e q => Or.inl q) tr np')
    · have tr : Turn (fun _ => False) h₉ h₉ := ⟨Nat.le_refl _, fun _ _ _ e => e⟩
      have np' : ∀ b o, (fun _ : Addr => False) b → h₉.get? b = some o → PObj (X.hide bd) b o := fun _ _ q => q.elim
      have Rx : Rep X ρ₉ σ₉ h₉ := R₉.turn (b' := X.bad) (fun b o e q => Or.inl q) tr np' (fun _ q => q.elim) fun b q => R₉.bad b (Or.inl q)
      have Fx : Frm X env sc m₉ σ₉.length ρ₉ h₉ := F₉.turn (b' := X.bad) (fun b o e q => Or.inl q) tr np'
      have arx : Ar X k A env h₉ := (ar₈.go g₉).turn (b' := X.bad) tr np'
      have gx : Go (Wr env) σ ρ s.heap σ₉ ρ₉ h₉ := g₁.up.trans (G₈.trans g₉)
      have flx : Flies X cc env.frame s.heap.objs.size e₉ h₉ := (fl.hide (X := X)).sz (Nat.le_trans hg₁ (by rw [← hS]; exact G₈.size))
      exact camesBack (s := s) (tk := tk₉) arx Rx Fx gx flx R hfr fun D h' R'' g'' F'' fl'' => er cc m₉ σ₉ ρ₉ e₉ h' tk₉ hK R'' g'' F'' fl''
  · have hkN : kk = min xs.length ys.length := by omega
    subst hkN
    obtain ⟨⟨hi', hj'⟩, hK⟩ := hend m' σ' hI
    obtain ⟨_, its1', ⟨n1', ho1'⟩, hall1⟩ := R'.list hi'
    obtain ⟨_, its2', ⟨n2', ho2'⟩, hall2⟩ := R'.list hj'
    rw [hρi] at ho1'
    rw [hρj] at ho2'
    refine wpAny_sized (wpAny_pyNext_zip_end (s := { s with heap := h', toks := tk }) hh D zp.zip zp.ti zto zp.it1 zp.it2 ⟨_, ho1', rfl, n1', rfl⟩ ⟨_, ho2', rfl, n2', rfl⟩ (by
      have q1 := hall1.length
      have q2 := hall2.length
      by_cases q : xs.length ≤ ys.length
      · left; simp; omega
      · right; simp; omega) fun h₄ hk₄ hsz₄ => wpAny_execs_nil ?_)
    dsimp only at hk₄ hsz₄
    have t₄ : Turn (ZipP (S + 4) (S + 3) S (S + 1)) h' h₄ := ⟨hsz₄, fun b o hb e => hk₄ b o (fun q => hb (.inl q)) (fun q => hb (.inr (.inl q))) (fun q => hb (.inr (.inr (.inl q)))) (fun q => hb (.inr (.inr (.inr q)))) e⟩
    refine hn m' σ' ρ' h₄ tk hK (R'.turn (b' := X.bad) (fun b o e q => Or.inl q) t₄ hP' (fun b q => hdead b (hPnew b q)) fun b q => ?_) (g₁.up.trans (g'.turn t₄ (by rw [hS]; exact hPnew))) (F'.turn (b' := X.bad) (fun b o e q => Or.inl q) t₄ hP')
    obtain ⟨o, vs, n, e, c, d⟩ := R'.bad b (Or.inl q)
    refine ⟨o, vs, n, t₄.keep b o (fun w => ?_) e, c, d⟩
    obtain ⟨o', _, _, e', _⟩ := R₁.bad b q
    have := Heap.lt_size e'
    rw [hS] at this
    exact absurd this (Nat.not_lt.mpr (hPnew b w))
theorem zqab {t : Expr} {body : List Stmt} (I : Nat → Loc → Store → Prop) (h0 : ∃ N, I N m σ)
    (hstep : ∀ N m σ, I N m σ → SV X k env sc t m σ (fun _ => False) fun c σ => (c = true → SS X k env sc (execs body env) m σ (loopN K fun m σ => ∃ N', N' < N ∧ I N' m σ)) ∧ (c = false → K (.next m σ))) :
    SS X k env sc (exec (.While t body [] p) env) m σ K := by
  intro A s ρ Q E ar R F hn hr er
  obtain ⟨N, h0⟩ := h0
  refine wpAny_While (codeAny_whileLoop (fun c s' => ∃ m' σ' ρ' h' tk, s' = { s with heap := h', toks := tk } ∧ I c m' σ' ∧ Rep X ρ' σ' h' ∧ Go (Wr env) σ ρ s.heap σ' ρ' h' ∧ Frm X env sc m' σ'.length ρ' h' ∧ Ar X k A env h') ?_ N
    ⟨m, σ, ρ, s.heap, s.toks, rfl, h0, R, .refl .., F, ar⟩)
  rintro c s' ⟨m', σ', ρ', h', tk, rfl, hI, R', g', F', ar'⟩
  refine hstep c m' σ' hI A { s with heap := h', toks := tk } ρ' _ _ ar' R' F' (fun b σ₁ ρ₁ h₁ tk₁ hf R₁ g₁ ar₁ F₁ => ?_) fun _ _ _ _ _ _ hK => hK.elim
  cases b with
  | true =>
    simp only [if_true]
    refine hf.1 rfl A { s with heap := h₁, toks := tk₁ } ρ₁ _ _ ar₁ R₁ F₁ (fun m₂ σ₂ ρ₂ h₂ tk₂ hI₂ R₂ g₂ F₂ => ?_) (fun w σ₂ ρ₂ a₂ h₂ tk₂ hK R₂ g₂ hF₂ hw₂ => ?_) fun _ _ _ _ _ _ _ hK => hK.elim
    · obtain ⟨N', hlt, hI'⟩ := hI₂
      exact ⟨N', hlt, m₂, σ₂, ρ₂, h₂, tk₂, rfl, hI', R₂, (g'.trans g₁.up).trans g₂, F₂, ar₁.go g₂⟩
    · exact hr w σ₂ ρ₂ a₂ h₂ tk₂ hK R₂ ((g'.trans g₁.up).trans g₂) hF₂ hw₂
  | false =>
    simp only [Bool.false_eq_true, if_false]
    exact wpAny_execs_nil (hn m' σ₁ ρ₁ h₁ tk₁ (hf.2 rfl) R₁ (g'.trans g₁.up) F₁)
end
end Mine

set_option Elab.async false
set_option autoImplicit false
set_option linter.unusedVariables false
namespace Mine
open PySem PySem.Spec PySem.Calls PyProof.Rows
theorem zip_lookup {names : List Str} {vals : List Value} (hlen : vals.length = names.length) {n : Str} (hn : n ∈ names) : ((names.zip vals).lookup n).isSome = true := by
  induction names generalizing vals with
  | nil => simp at hn
  | cons a r ih =>
    cases vals with
    | nil => simp at hlen
    | cons v vs =>
      simp only [List.zip_cons_cons, List.lookup_cons]
      cases hb : n == a with
      | true => rfl
      | false =>
        have : n ∈ r := by
          rcases List.mem_cons.mp hn with rfl | h
          · simp at hb
          · exact h
        simpa using ih (by simpa using hlen) this
theorem zip_filterMap {names : List Str} (hnd : names.Nodup) {vals : List Value} (hlen : vals.length = names.length) (pre : List (Str × Value)) (hpre : ∀ n ∈ names, pre.lookup n = none) :
    names.filterMap (fun n => ((pre ++ names.zip vals).lookup n).map (n, ·)) = names.zip vals := by
  induction names generalizing vals pre with
  | nil => simp
  | cons a r ih =>
    cases vals with
    | nil => simp at hlen
    | cons v vs =>
      obtain ⟨h1, h2⟩ := List.nodup_cons.mp hnd
      have e1 : (pre ++ (a, v) :: r.zip vs).lookup a = some v := by
        rw [List.lookup_append, hpre a List.mem_cons_self]
        simp
      simp only [List.zip_cons_cons, List.filterMap_cons, e1, Option.map_some]
      congr 1
      have := ih h2 (vals := vs) (by simpa using hlen) (pre ++ [(a, v)]) (fun n hn => by
        rw [List.lookup_append, hpre n (List.mem_cons_of_mem _ hn)]
        have : n ≠ a := fun q => h1 (q ▸ hn)
        have hb : (n == a) = false := by simpa using this
        simp [List.lookup_cons, hb])
      simpa using this
theorem bind_plain {fd : FuncData} {names : List Str} {vals : List Value} (h1 : fd.params.posonlyargs = []) (h2 : fd.params.args.map (·.arg) = names) (h3 : fd.params.vararg = none) (h4 : fd.params.kwonlyargs = []) (h5 : fd.params.kwarg = none)
    (h6 : fd.defaults = .none) (hnd : names.Nodup) (hlen : vals.length = names.length) : bindArgs fd ⟨vals, []⟩ = pure (names.zip vals) := by
  have e0 : seqItems? Value.none = pure none := rfl
  have em : (names.filter fun n => ((names.zip vals).lookup n).isNone) = [] := by
    rw [List.filter_eq_nil_iff]
    intro n hn
    have := zip_lookup hlen hn
    simp only [Option.isNone_iff_eq_none]
    intro q
    rw [q] at this; cases this
  have ef := zip_filterMap hnd hlen [] (by simp)
  simp only [List.nil_append] at ef
  unfold bindArgs
  simp only [h1, h2, h3, h4, h5, h6, e0, List.map_nil, List.nil_append, List.append_nil, List.forIn_nil, pure_bind, Option.getD_none, List.length_nil, Nat.zero_sub, List.drop_nil, Nat.sub_zero, List.take_length, em, List.isEmpty_nil,
    Bool.not_true, Bool.false_eq_true, if_false, List.drop_length, List.zip_nil_left, ef, Option.isNone_none, Bool.and_true, gt_iff_lt, hlen, Nat.lt_irrefl, decide_false]
noncomputable def RefLt (n : Nat) : V → Prop
  | .ref i => i < n
  | .zip i j => i < n ∧ j < n
  | _ => True
noncomputable def RenV (π : Nat → Nat) (n : Nat) : V → V → Prop
  | .ref i, w => i < n ∧ w = .ref (π i)
  | .zip _ _, _ => False
  | v, w => w = v
inductive RenAll (π : Nat → Nat) (n : Nat) : List V → List V → Prop
  | nil : RenAll π n [] []
  | cons {v w vs ws} : RenV π n v w → RenAll π n vs ws → RenAll π n (v :: vs) (w :: ws)
noncomputable def RenC (π : Nat → Nat) (n : Nat) : Cell → Cell → Prop
  | .lst xs, .lst ys => RenAll π n xs ys
  | .dct, .dct => True
  | _, _ => False
structure Emb (σ σ₁ σ' : Store) (v₁ v : V) (π : Nat → Nat) : Prop where
  old : ∀ i, i < σ.length → π i = i
  len : σ.length ≤ σ'.length
  lt : ∀ i, i < σ'.length → π i < σ₁.length
  inj : ∀ i j, i < σ'.length → j < σ'.length → π i = π j → i = j
  cell : ∀ i, i < σ'.length → (i < σ.length ∧ σ'[i]? = σ[i]? ∧ σ₁[i]? = σ[i]?) ∨ (∃ c₁ c', σ₁[π i]? = some c₁ ∧ σ'[i]? = some c' ∧ RenC π σ'.length c' c₁)
  val : RenV π σ'.length v v₁
section
variable {X : Cx} {σ σ₁ σ' : Store} {ρ ρ₁ : Nat → Addr} {h h₁ : Heap} {v₁ v : V} {π : Nat → Nat} {a : Value}
theorem Has.bound {n : Nat} (x : Has X n ρ h v a) : RefLt n v := by
  cases x <;> first | exact trivial | assumption
theorem HasAll.bound {n : Nat} {vs : List V} {as : List Value} (x : HasAll X n ρ h vs as) : ∀ v ∈ vs, RefLt n v := by
  induction x with
  | nil => intro v hv; simp at hv
  | cons h1 _ ih =>
    intro v hv
    rcases List.mem_cons.mp hv with rfl | hv
    · exact h1.bound
    · exact ih v hv
theorem Has.rebase {n₀ n₁ n' : Nat} {ρ' : Nat → Addr} (x : Has X n₁ ρ₁ h v a) (hb : RefLt n₀ v) (hn : n₀ ≤ n') (hρ : ∀ i, i < n₀ → ρ' i = ρ₁ i) : Has X n' ρ' h v a := by
  cases x with
  | d r => exact .d r
  | ref hi => rw [← hρ _ hb]; exact .ref (Nat.lt_of_lt_of_le hb hn)
  | exc h1 h2 h3 h4 h5 => exact .exc h1 h2 h3 h4 h5
  | glob h1 => exact .glob h1
  | rng h1 h2 => exact .rng h1 h2
theorem HasAll.rebase {n₀ n₁ n' : Nat} {ρ' : Nat → Addr} {vs : List V} {as : List Value} (x : HasAll X n₁ ρ₁ h vs as) (hb : ∀ v ∈ vs, RefLt n₀ v) (hn : n₀ ≤ n') (hρ : ∀ i, i < n₀ → ρ' i = ρ₁ i) : HasAll X n' ρ' h vs as := by
  induction x with
  | nil => exact .nil
  | cons h1 _ ih => exact .cons (h1.rebase (hb _ List.mem_cons_self) hn hρ) (ih fun v hv => hb v (List.mem_cons_of_mem _ hv))
theorem Has.ren {n₁ n' : Nat} (x : Has X n₁ ρ₁ h v₁ a) (r : RenV π n' v v₁) : Has X n' (fun i => ρ₁ (π i)) h v a := by
  cases v with
  | ref i =>
    obtain ⟨hi, rfl⟩ := r
    cases x with
    | ref _ => exact .ref (ρ := fun i => ρ₁ (π i)) hi
  | zip i j => exact r.elim
  | d y => cases (r : v₁ = .d y); exact .d x.d_rdc
  | exc c => cases (r : v₁ = .exc c); cases x with | exc h1 h2 h3 h4 h5 => exact .exc h1 h2 h3 h4 h5
  | glob c => cases (r : v₁ = .glob c); cases x with | glob h1 => exact .glob h1
  | rng lo hi => cases (r : v₁ = .rng lo hi); cases x with | rng h1 h2 => exact .rng h1 h2
theorem HasAll.ren {n₁ n' : Nat} {vs ws : List V} {as : List Value} (r : RenAll π n' vs ws) (x : HasAll X n₁ ρ₁ h ws as) : HasAll X n' (fun i => ρ₁ (π i)) h vs as := by
  induction r generalizing as with
  | nil => cases x; exact .nil
  | cons h1 _ ih => cases x with | cons x1 x2 => exact .cons (x1.ren h1) (ih x2)
theorem Emb.rep {W : Addr → Prop} (e : Emb σ σ₁ σ' v₁ v π) (R : Rep X ρ σ h) (R₁ : Rep X ρ₁ σ₁ h₁) (g : Go W σ ρ h σ₁ ρ₁ h₁) (hv : Has X σ₁.length ρ₁ h₁ v₁ a) :
    Rep X (fun i => ρ₁ (π i)) σ' h₁ ∧ Go W σ ρ h σ' (fun i => ρ₁ (π i)) h₁ ∧ Has X σ'.length (fun i => ρ₁ (π i)) h₁ v a := by
  have hge : ∀ i, σ.length ≤ i → i < σ'.length → σ.length ≤ π i := fun i h1 h2 => by
    by_cases hlt : π i < σ.length
    · have := e.inj (π i) i (Nat.lt_of_lt_of_le hlt e.len) h2 (e.old _ hlt)
      omega
    · omega
  refine ⟨⟨R₁.base, ?_, ?_, ?_, R₁.bad⟩, ⟨g.size, g.keep, g.dicts, e.len, ?_, ?_⟩, hv.ren e.val⟩
  · intro i c hc
    have hi := (List.getElem?_eq_some_iff.mp hc).1
    rcases e.cell i hi with ⟨h1, h2, h3⟩ | ⟨c₁, c', h1, h2, h3⟩
    · rw [hc] at h2
      rw [← h2] at h3
      obtain ⟨oc, its, hp, sh, ha⟩ := R₁.cell i c h3
      obtain ⟨_, its0, _, _, ha0⟩ := R.cell i c h2.symm
      show CellAt X σ'.length (fun i => ρ₁ (π i)) h₁ (ρ₁ (π i)) c
      rw [e.old i h1]
      exact ⟨oc, its, hp, sh, ha.rebase ha0.bound e.len fun j hj => by show ρ₁ (π j) = ρ₁ j; rw [e.old j hj]⟩
    · rw [hc] at h2; cases h2
      obtain ⟨oc, its, hp, sh, ha⟩ := R₁.cell (π i) c₁ h1
      cases c <;> cases c₁ <;> first | exact h3.elim | exact ⟨oc, its, hp, sh, HasAll.ren h3 ha⟩ | exact ⟨oc, its, hp, sh, by cases ha; exact .nil⟩
  · intro i c hc ho
    have hi := (List.getElem?_eq_some_iff.mp hc).1
    rcases e.cell i hi with ⟨h1, h2, h3⟩ | ⟨c₁, c', h1, h2, h3⟩
    · rw [hc] at h2
      rw [← h2] at h3
      show X.B.get? (ρ₁ (π i)) = none
      rw [e.old i h1]
      exact R₁.own i c h3 ho
    · rw [hc] at h2; cases h2
      refine R₁.own (π i) c₁ h1 ?_
      cases c <;> cases c₁ <;> first | exact h3.elim | exact ho
  · intro i j hi hj q
    exact e.inj i j hi hj (R₁.inj _ _ (e.lt i hi) (e.lt j hj) q)
  · intro i hi
    show ρ₁ (π i) = ρ i
    rw [e.old i hi]; exact g.ext i hi
  · intro i h1 h2
    exact g.new _ (hge i h1 h2) (e.lt i h2)
theorem Emb.pure {τ : Store} {x : PyData} : Emb σ (σ ++ τ) σ (.d x) (.d x) id where
  old := fun _ _ => rfl
  len := Nat.le_refl _
  lt := fun i hi => by simp only [List.length_append, id]; omega
  inj := fun _ _ _ _ q => q
  cell := fun i hi => .inl ⟨hi, rfl, List.getElem?_append_left hi⟩
  val := rfl
theorem renAll_flat {n : Nat} : ∀ {xs : List V}, (∀ v ∈ xs, ∃ x, v = .d x) → RenAll π n xs xs
  | [], _ => .nil
  | v :: r, h => by
    obtain ⟨x, rfl⟩ := h v List.mem_cons_self
    exact .cons rfl (renAll_flat fun w hw => h w (List.mem_cons_of_mem _ hw))
theorem Emb.newCell {τ : Store} {c : Cell} {j : Nat} (hj : τ[j]? = some c) (hf : RenC (fun i => if i = σ.length then σ.length + j else i) (σ ++ [c]).length c c) :
    Emb σ (σ ++ τ) (σ ++ [c]) (.ref (σ.length + j)) (.ref σ.length) (fun i => if i = σ.length then σ.length + j else i) where
  old := fun i hi => if_neg (Nat.ne_of_lt hi)
  len := by simp
  lt := fun i hi => by
    have := (List.getElem?_eq_some_iff.mp hj).1
    simp only [List.length_append, List.length_cons, List.length_nil] at hi ⊢
    split <;> omega
  inj := fun i k hi hk q => by
    simp only [List.length_append, List.length_cons, List.length_nil] at hi hk
    by_cases h1 : i = σ.length <;> by_cases h2 : k = σ.length <;> simp only [h1, h2, if_true, if_false] at q <;> omega
  cell := fun i hi => by
    simp only [List.length_append, List.length_cons, List.length_nil] at hi
    by_cases h1 : i < σ.length
    · exact .inl ⟨h1, List.getElem?_append_left h1, List.getElem?_append_left h1⟩
    · have : i = σ.length := by omega
      subst this
      refine .inr ⟨c, c, ?_, by simp, hf⟩
      rw [if_pos rfl, List.getElem?_append_right (by omega)]
      simpa using hj
  val := ⟨by simp, by simp⟩
theorem Emb.newList {τ : Store} {xs : List V} {j : Nat} (hj : τ[j]? = some (.lst xs)) (hf : ∀ v ∈ xs, ∃ x, v = .d x) :
    Emb σ (σ ++ τ) (σ ++ [.lst xs]) (.ref (σ.length + j)) (.ref σ.length) (fun i => if i = σ.length then σ.length + j else i) := .newCell hj (renAll_flat hf)
end
end Mine

set_option Elab.async false
set_option autoImplicit false
set_option linter.unusedVariables false
namespace Mine
open PySem PySem.Spec PySem.Calls PyProof.Rows
structure IsFn (X : Cx) (f : Str) (names : List Str) (body : List Stmt) (scope : Scope) : Prop where
  fn : ∃ a o pm code doc params, X.mg f = some (.ref a) ∧ X.B.get? a = some o ∧ o.data = .func (docDef f params body scope pm code doc) ∧ X.B.CodeRec code f ∧
    params.posonlyargs = [] ∧ params.args.map (·.arg) = names ∧ params.vararg = none ∧ params.kwonlyargs = [] ∧ params.kwarg = none
noncomputable def fnOkB (names : List Str) (scope : Scope) : Bool :=
  scope.kind == .function && !scope.isGenerator && !scope.isCoroutine && names.all (fun n => scope.names.lookup n == some .local || scope.names.lookup n == some .cell) &&
    scope.names.all (fun y => y.2 != .free) && (scope.names.lookup ("__debug__" : Str)).isNone && (scope.names.lookup ("__classdict__" : Str)).isNone && decide names.Nodup
structure FnOk (names : List Str) (scope : Scope) : Prop where
  kind : scope.kind = .function
  gen : scope.isGenerator = false
  cor : scope.isCoroutine = false
  params : ∀ n ∈ names, scope.names.lookup n = some .local ∨ scope.names.lookup n = some .cell
  nofree : ∀ y ∈ scope.names, y.2 ≠ .free
  debug : scope.names.lookup ("__debug__" : Str) = none
  classdict : scope.names.lookup ("__classdict__" : Str) = none
  nodup : names.Nodup
theorem fnOk_of {names : List Str} {scope : Scope} (h : fnOkB names scope = true) : FnOk names scope := by
  unfold fnOkB at h
  simp only [Bool.and_eq_true, beq_iff_eq, List.all_eq_true, bne_iff_ne, ne_eq, Bool.or_eq_true, Option.isNone_iff_eq_none, Bool.not_eq_true', decide_eq_true_eq] at h
  obtain ⟨⟨⟨⟨⟨⟨⟨h1, h2⟩, h3⟩, h4⟩, h5⟩, h6⟩, h7⟩, h8⟩ := h
  exact ⟨h1, h2, h3, h4, h5, h6, h7, h8⟩
theorem cellsFrom_isSome {x : Str} : ∀ (names : List (Str × NameKind)) (n : Nat) (acc : List (Str × Addr)), names.lookup x = some .cell ∨ (acc.lookup x).isSome = true → ((cellsFrom n names acc).lookup x).isSome = true
  | [], _, _, h => h.elim (fun e => by simp at e) id
  | (y, k) :: r, n, acc, h => by
    unfold cellsFrom
    by_cases hk : (k == .cell) = true
    · rw [if_pos hk]
      refine cellsFrom_isSome r (n + 1) ((y, n) :: acc) ?_
      by_cases hy : (x == y) = true
      · exact .inr (by rw [List.lookup_cons, hy]; rfl)
      · refine h.imp (fun e => ?_) fun e => ?_
        · rw [List.lookup_cons] at e; simpa only [hy] using e
        · rw [List.lookup_cons]; simpa only [hy] using e
    · rw [if_neg hk]
      refine cellsFrom_isSome r n acc ?_
      by_cases hy : (x == y) = true
      · refine .inr (h.elim (fun e => ?_) id)
        rw [List.lookup_cons, hy] at e
        exact absurd (by rw [Option.some.inj e]; rfl) hk
      · refine h.imp (fun e => ?_) id
        rw [List.lookup_cons] at e; simpa only [hy] using e
section
variable {kd : Str → Option NameKind}
theorem bindL_other {x : Str} : ∀ (names : List Str) (vals : List Value) (m : Str → Option Value), x ∉ names → bindL kd (names.zip vals) m x = m x
  | [], vals, m, _ => by simp [bindL]
  | a :: r, [], m, _ => by simp [bindL]
  | a :: r, v :: vs, m, h => by
    simp only [List.zip_cons_cons, bindL]
    rw [bindL_other r vs _ fun q => h (List.mem_cons_of_mem _ q)]
    split
    · exact if_neg fun q : x = a => h (q ▸ List.mem_cons_self)
    · rfl
theorem bindC_other {x : Str} : ∀ (names : List Str) (vals : List Value) (m : Str → Option Value), x ∉ names → bindC kd (names.zip vals) m x = m x
  | [], vals, m, _ => by simp [bindC]
  | a :: r, [], m, _ => by simp [bindC]
  | a :: r, v :: vs, m, h => by
    simp only [List.zip_cons_cons, bindC]
    rw [bindC_other r vs _ fun q => h (List.mem_cons_of_mem _ q)]
    split
    · rfl
    · exact if_neg fun q : x = a => h (q ▸ List.mem_cons_self)
variable {X : Cx} {n : Nat} {ρ : Nat → Addr} {h : Heap}
theorem bind_has {x : Str} : ∀ {names : List Str} {vs : List V} {vals : List Value} (m : Str → Option Value), names.Nodup → HasAll X n ρ h vs vals → ∀ {v : V}, (names.zip vs).lookup x = some v →
    ∃ a, Has X n ρ h v a ∧ (kd x = some .local → bindL kd (names.zip vals) m x = some a) ∧ (kd x ≠ some .local → bindC kd (names.zip vals) m x = some a)
  | [], vs, vals, m, _, _, v, e => by simp at e
  | a :: r, [], _, m, _, .nil, v, e => by simp at e
  | a :: r, w :: ws, _, m, hnd, .cons (a := b) (as := bs) h1 h2, v, e => by
    obtain ⟨n1, n2⟩ := List.nodup_cons.mp hnd
    simp only [List.zip_cons_cons, List.lookup_cons] at e
    cases hb : x == a with
    | true =>
      rw [hb] at e; cases e
      have hxa := beq_iff_eq.mp hb
      subst hxa
      refine ⟨b, h1, fun hk => ?_, fun hk => ?_⟩
      · simp only [List.zip_cons_cons, bindL]
        rw [bindL_other r bs _ n1, if_pos hk]; exact if_pos rfl
      · simp only [List.zip_cons_cons, bindC]
        rw [bindC_other r bs _ n1, if_neg hk]; exact if_pos rfl
    | false =>
      rw [hb] at e
      simp only [List.zip_cons_cons, bindL, bindC]
      obtain ⟨q, hq, h3, _⟩ := bind_has (if kd a = some .local then (fun y => if y = a then some b else m y) else m) n2 h2 e
      obtain ⟨q', hq', _, h4⟩ := bind_has (if kd a = some .local then m else (fun y => if y = a then some b else m y)) n2 h2 e
      by_cases hk : kd x = some .local
      · exact ⟨q, hq, h3, fun hn => absurd hk hn⟩
      · exact ⟨q', hq', fun hl => absurd hl hk, h4⟩
end
noncomputable def retK (σ : Store) (K : OutE → Prop) : OutS → Prop
  | .next _ σ₁ => ∃ v σ' π, Emb σ σ₁ σ' (.d .none) v π ∧ K (.val v σ')
  | .ret v₁ σ₁ => ∃ v σ' π, Emb σ σ₁ σ' v₁ v π ∧ K (.val v σ')
  | .exn c _ σ₁ => ∃ σ' π, Emb σ σ₁ σ' (.d .none) (.d .none) π ∧ K (.exn c σ')
theorem valid_fn {X : Cx} {k : Nat} {f : Str} {names : List Str} {body : List Stmt} {scope : Scope} {T : Contract} (cx : CxOk X) (hf : IsFn X f names body scope) (hok : fnOkB names scope = true)
    (hb : ∀ vs σ K, T vs σ K → vs.length = names.length ∧ ∀ env, SS X k env (kindsOf scope.names) (execs body env) (fun y => (names.zip vs).lookup y) σ (retK σ K)) : ValidF X (k + 1) f T := by
  obtain ⟨a, o, pm, code, doc, params, hmg, ho, hd, hcd, p1, p2, p3, p4, p5⟩ := hf.fn
  have fo := fnOk_of hok
  refine ⟨.ref a, by unfold Cx.val; rw [hmg]; rfl, Kp.func ho hd, ?_⟩
  intro vs σ K hT A s ρ vals Q E ar R hall hokE erE
  obtain ⟨hlen, hw⟩ := hb vs σ K hT
  have hlen' : vals.length = names.length := by rw [← hall.length]; exact hlen
  have hdep := ar.depth
  refine wpAny_call (codeAny_call_cells (binds := names.zip vals) (by omega) (R.base _ _ ho) hd (cx.nolimit.keeps R.base) (hcd.keeps R.base) rfl
    (bind_plain p1 p2 p3 p4 p5 rfl fo.nodup hlen') rfl (fun x hx => ?_) (fun s₁ ic => ?_) fo.cor fo.gen fo.kind)
  · have hx1 : x.1 ∈ names := (List.of_mem_zip hx).1
    rcases fo.params x.1 hx1 with q | q
    · exact .inl q
    · exact .inr ⟨q, cellsFrom_isSome _ _ _ (.inl q)⟩
  · obtain ⟨⟨⟨h₁, tk₁, rfl⟩, hns, hkeep, hfresh⟩, hcell, hapart, habove⟩ := ic
    dsimp only at hns hkeep
    have henv : (callEnvC (docDef f params body scope pm code doc) s.heap.objs.size a).locals = s.heap.objs.size := rfl
    generalize hE : callEnvC (docDef f params body scope pm code doc) s.heap.objs.size a = env at *
    have hsc : env.scope = scope := by rw [← hE]; rfl
    have hfr : env.frame = some env.locals := by rw [← hE]; rfl
    have hz : s.heap.objs.size ≤ h₁.objs.size := by
      obtain ⟨o', es, ep, e', _⟩ := hns
      rw [henv] at e'
      exact Nat.le_of_lt (Heap.lt_size e')
    have hkd : ∀ x, env.kindOf x = scope.names.lookup x := fun x => by unfold Env.kindOf; rw [hsc]
    have R₁ : Rep X ρ σ h₁ := R.grow hkeep
    have g₁ : Go Nowhere σ ρ s.heap σ ρ h₁ := .ofGrow hz hkeep
    have hall₁ := hall.go R g₁ .nowhere
    have hnone : ∀ b, s.heap.objs.size ≤ b → X.B.get? b = none := fun b hb => by
      cases e : X.B.get? b with
      | none => rfl
      | some o => exact absurd (Heap.lt_size (R.base _ _ e)) (Nat.not_lt.mpr hb)
    have F₁ : Frm X env (kindsOf scope.names) (fun y => (names.zip vs).lookup y) σ.length ρ h₁ := {
      kind := by rw [hsc]; exact fo.kind
      glob := by rw [← hE]; rfl
      bi := by rw [← hE]; rfl
      kinds := {
        loc := fun x hx => (hkd x).trans hx
        cell := fun x hx => (hkd x).trans hx
        free := fun x hx => absurd rfl (fo.nofree _ (mem_lookup hx))
        glob := fun x hx => (hkd x).trans hx
        debug := fo.debug
        classdict := fo.classdict }
      ns := ⟨_, hns, fun x v hx hv => by
        obtain ⟨b, h1, h2, _⟩ := bind_has (kd := env.kindOf) (fun _ => none) fo.nodup hall₁ hv
        exact ⟨b, h2 ((hkd x).trans hx), h1⟩⟩
      cells := fun x hx => by
        have hx' : scope.names.lookup x = some .cell := by
          rcases hx with q | q
          · exact q
          · exact absurd rfl (fo.nofree _ (mem_lookup q))
        have hcs : env.cells = cellsFrom (s.heap.objs.size + 1) scope.names [] := by rw [← hE]; rfl
        have := cellsFrom_isSome scope.names (s.heap.objs.size + 1) [] (.inl hx')
        rw [← hcs] at this
        obtain ⟨c, hc⟩ := Option.isSome_iff_exists.mp this
        refine ⟨c, _, hc, hcell x c hc, fun v hv => ?_⟩
        obtain ⟨b, h1, _, h2⟩ := bind_has (kd := env.kindOf) (fun _ => none) fo.nodup hall₁ hv
        exact ⟨b, h2 (by rw [hkd x, hx']; decide), h1⟩
      isCells := fun x c hc => ⟨_, hcell x c hc⟩
      sepL := fun i hi q => by
        have := R.lt hi
        rw [q, henv] at this
        exact Nat.lt_irrefl _ this
      newL := hnone _ (by rw [henv]; exact Nat.le_refl _)
      newC := fun x c hc => hnone c (by have := habove x c (mem_of_lookup hc); rw [henv] at this; exact Nat.le_of_lt this)
      apart := fun x y c hx hy => name_of_addr hapart (mem_of_lookup hx) (mem_of_lookup hy) }
    have ar₁ : Ar X k (A.deeper env) env h₁ := {
      handled := fun q => ar.handled (by omega)
      depth := by show A.depth + 1 + k < recursionLimit; omega
      units := by show A.units + 3 + 20 * k + 200 < cLine; have := ar.units; omega
      stack := by
        obtain ⟨l, h1, h3⟩ := ar.stack
        refine ⟨env, l, ?_, rfl, ?_⟩
        · show A.frames.map (env :: ·) = _
          rw [h1]; rfl
        · intro e he
          rcases List.mem_cons.mp he with rfl | he
          · obtain ⟨o', es, ep, e', d, _⟩ := hns
            exact ⟨by rw [hsc, fo.kind]; decide, _, o', es, ep, hfr, hnone _ (by rw [henv]; exact Nat.le_refl _), e', d⟩
          · exact h3.go g₁ e he }
    have hWr : ∀ b o, s.heap.get? b = some o → Wr env b → False := fun b o e hb => by
      have hlt := Heap.lt_size e
      rcases hb with q | ⟨x, hx⟩
      · rw [q, henv] at hlt; exact Nat.lt_irrefl _ hlt
      · have := habove x b (mem_of_lookup hx); rw [henv] at this; exact absurd hlt (Nat.not_lt.mpr (Nat.le_of_lt this))
    have fin : ∀ {v₁ σ₁ ρ₁ a₁ h' v σ' π} {tk : Nat}, Emb σ σ₁ σ' v₁ v π → K (.val v σ') → Rep X ρ₁ σ₁ h' → Go (Wr env) σ ρ h₁ σ₁ ρ₁ h' → Has X σ₁.length ρ₁ h' v₁ a₁ → Q a₁ { s with heap := h', toks := tk } := by
      intro v₁ σ₁ ρ₁ a₁ h' v σ' π tk e hK R' g' hv
      have G : Go (Wr env) σ ρ s.heap σ₁ ρ₁ h' := g₁.up.trans g'
      obtain ⟨Rf, gf, hf⟩ := e.rep R R' G hv
      exact hokE v σ' _ a₁ h' tk hK Rf (gf.weaken fun b o e q => hWr b o e q) hf
    refine hw env (A.deeper env) { s with heap := h₁, toks := tk₁ } ρ _ _ ar₁ R₁ F₁ (fun m' σ₁ ρ₁ h' tk hK R' g' F' => ?_) (fun v₁ σ₁ ρ₁ a₁ h' tk hK R' g' _ hv => ?_) fun c m' σ₁ ρ₁ e h' tk hK R' g' F' fl => ?_
    · obtain ⟨v, σ', π, e, hK⟩ := hK
      exact fin e hK R' g' .ofNone
    · obtain ⟨v, σ', π, e, hK⟩ := hK
      exact fin e hK R' g' hv
    · obtain ⟨σ', π, em, hK⟩ := hK
      have G : Go (Wr env) σ ρ s.heap σ₁ ρ₁ h' := g₁.up.trans g'
      have hlt : ∀ b o, X.B.get? b = some o → b < s.heap.objs.size := fun b o q => Heap.lt_size (R.base b o q)
      unfold leaving
      refine wpAny_bind (note_sound (s := { s with heap := h', toks := tk }) (ar₁.go g') hfr (fl.sz hz) G.size fun D₂ h₂ dok₂ hD₂ f₂ x₂ => ?_)
      refine flight_sound (s := { s with heap := h₂, toks := tk }) (fr := none) x₂ rfl fun D₃ h₃ dok₃ hD₃ f₃ x₃ => ?_
      have R₃ := (R'.fl dok₂ f₂ (base_notD (h := h') hD₂ hlt)).fl dok₃ f₃ (base_notD (h := h') hD₃ hlt)
      have G₃ := (G.fl f₂ hD₂).fl f₃ hD₃
      obtain ⟨Rf, gf, _⟩ := em.rep R R₃ G₃ .ofNone
      exact erE c σ' _ e h₃ tk hK Rf (gf.weaken fun b o e q => hWr b o e q) x₃.none
end Mine

set_option Elab.async false
set_option autoImplicit false
set_option linter.unusedVariables false
namespace Mine
open PySem PySem.Spec PySem.Calls PyProof.Rows
noncomputable def biTable : List (Str × Value) := [("len", .builtin "len"), ("isinstance", .builtin "isinstance"), ("sum", .builtin "sum"), ("min", .builtin "min"), ("max", .builtin "max"), ("abs", .builtin "abs"),
  ("sorted", .builtin "sorted"), ("all", .builtin "all"),
  ("list", .type "list"), ("range", .type "range"), ("int", .type "int"), ("bool", .type "bool"), ("str", .type "str"), ("tuple", .type "tuple"), ("zip", .type "zip"), ("dict", .type "dict"), ("ValueError", .type "ValueError")]
noncomputable def CxB (X : Cx) : Prop := ∀ p ∈ biTable, X.val p.1 = some p.2
noncomputable def lenT : Contract := fun vs σ K => match vs with
  | [.ref i] => ∃ xs, itemsAt σ i = some xs ∧ xs.length ≤ 1000000 ∧ K (.val (.d (.int xs.length)) σ)
  | [.d (.tuple xs)] => xs.length ≤ 1000000 ∧ K (.val (.d (.int xs.length)) σ)
  | [.d (.str x)] => x.length ≤ 1000000 ∧ K (.val (.d (.int x.length)) σ)
  | _ => False
section
variable {X : Cx} {k : Nat}
theorem HasAll.one_inv {n : Nat} {ρ : Nat → Addr} {h : Heap} {v : V} {as : List Value} (x : HasAll X n ρ h [v] as) : ∃ a, as = [a] ∧ Has X n ρ h v a := by
  cases x with | cons h1 h2 => cases h2; exact ⟨_, rfl, h1⟩
theorem HasAll.two_inv {n : Nat} {ρ : Nat → Addr} {h : Heap} {v w : V} {as : List Value} (x : HasAll X n ρ h [v, w] as) : ∃ a b, as = [a, b] ∧ Has X n ρ h v a ∧ Has X n ρ h w b := by
  cases x with | cons h1 h2 => cases h2 with | cons h2 h3 => cases h3; exact ⟨_, _, rfl, h1, h2⟩
theorem len_tup {prog : Program} {w : World} {A : Around} {s : Shared} {E : Value → Shared → Prop} {t : Addr} {items : Array Value} {Q : Value → Shared → Prop} (ht : IsTup s.heap t items) (hfit : (items.size : Int) < 2 ^ 63)
    (h : ∀ tk u, Q (.int items.size u) { s with toks := tk }) : wpAny (model prog w) A (call (.builtin "len") [.ref t]) Q E s :=
  PyProof.Rows.len_tuple ht (by omega) (h _ _)
theorem valid_len (b : CxB X) : ValidF X k ("len" : Str) lenT := by
  refine ⟨.builtin "len", b ("len", .builtin "len") (by simp [biTable]), Kp.builtin, ?_⟩
  intro vs σ K hT A s ρ vals Q E ar R hall ok er
  unfold lenT at hT
  split at hT
  · obtain ⟨xs, h1, h2, h3⟩ := hT
    obtain ⟨a, rfl, hv⟩ := hall.one_inv
    obtain ⟨_, rfl⟩ := hv.ref_inv
    obtain ⟨_, its, ⟨n, e⟩, ha⟩ := R.list h1
    have hz : xs.length = its.length := ha.length
    refine call_len_list ⟨_, e, rfl, n, rfl⟩ (by rw [List.size_toArray]; omega) ?_
    have := ok _ _ _ (.int its.length (s.toks + 1)) _ (s.toks + 1 + 1) h3 R (.refl ..) (by rw [hz]; exact .ofInt ..)
    simpa using this
  · obtain ⟨h2, h3⟩ := hT
    obtain ⟨a, rfl, hv⟩ := hall.one_inv
    have r := hv.d_inv
    cases r with
    | @tuple a o vs n xs as e1 e2 e3 e4 =>
      have hl := SeqAt.ReadsAll.length _ _ _ e4
      rw [Array.length_toList] at hl
      refine len_tup ⟨o, e1, e2, n, e3⟩ (by omega) fun tk u => ?_
      exact ok _ _ _ _ _ tk h3 R (.refl ..) (by rw [hl]; exact .ofInt ..)
  · obtain ⟨h2, h3⟩ := hT
    obtain ⟨a, rfl, hv⟩ := hall.one_inv
    obtain ⟨t, rfl⟩ := hv.str_inv
    exact PySem.P.len_str (by omega) (ok _ _ _ _ _ _ h3 R (.refl ..) (.ofInt ..))
  · exact hT.elim
noncomputable def kindName : PyData → Option String
  | .none => some "NoneType"
  | .bool _ => some "bool"
  | .int _ => some "int"
  | .str _ => some "str"
  | .tuple _ => some "tuple"
  | _ => none
noncomputable def isiName (k : String) (t : Str) : Option Bool :=
  if t = ("int" : Str) then some (k == "int" || k == "bool")
  else if t = ("bool" : Str) then some (k == "bool")
  else if t = ("str" : Str) then some (k == "str")
  else if t = ("tuple" : Str) then some (k == "tuple")
  else if t = ("list" : Str) then some (k == "list")
  else none
noncomputable def isiW (σ : Store) (v : V) (t : Str) : Option Bool :=
  match v with
  | .d x => (kindName x).bind fun k => isiName k t
  | .ref i => (σ[i]?).bind fun c => isiName (match c with | .dct => "dict" | _ => "list") t
  | _ => none
noncomputable def isi0T : Contract := fun vs σ K => match vs with
  | [v, .glob t] => ∃ b, isiW σ v t = some b ∧ K (.val (.d (.bool b)) σ)
  | _ => False
theorem none_isi {prog : Program} {w : World} {A : Around} {s : Shared} {E : Value → Shared → Prop} {Q : Value → Shared → Prop} {T : String} (hT : T ∈ ["int", "bool", "str", "tuple", "list"]) (h : ∀ tk, Q (.bool false) { s with toks := tk }) :
    wpAny (model prog w) A (call (.builtin "isinstance") [.none, .type T]) Q E s := by
  simp only [List.mem_cons, List.not_mem_nil, or_false] at hT
  rcases hT with rfl | rfl | rfl | rfl | rfl
  · exact IsiPair.NoneType_int (h _)
  · exact IsiPair.NoneType_bool (h _)
  · exact IsiPair.NoneType_str (h _)
  · exact IsiPair.NoneType_tuple (h _)
  · exact IsiPair.NoneType_list (h _)
theorem isi_sound {prog : Program} {w : World} {A : Around} {s : Shared} {E : Value → Shared → Prop} {Q : Value → Shared → Prop} {T k : String} {v : Value} {b : Bool} (hT : T ∈ ["int", "bool", "str", "tuple", "list"])
    (hk : (k = "NoneType" ∧ v = .none) ∨ (k = "bool" ∧ ∃ c, v = .bool c) ∨ (k = "int" ∧ ∃ i t, v = .int i t) ∨ (k = "str" ∧ ∃ i t, v = .str i t) ∨ (k = "tuple" ∧ ∃ a o, v = .ref a ∧ s.heap.get? a = some o ∧ o.cls = .type "tuple") ∨
      (k = "list" ∧ ∃ a o, v = .ref a ∧ s.heap.get? a = some o ∧ o.cls = .type "list") ∨ (k = "dict" ∧ ∃ a o, v = .ref a ∧ s.heap.get? a = some o ∧ o.cls = .type "dict"))
    (hb : b = (k == T || (k == "bool" && T == "int"))) (h : ∀ tk, Q (.bool b) { s with toks := tk }) : wpAny (model prog w) A (call (.builtin "isinstance") [v, .type T]) Q E s := by
  rcases hk with ⟨rfl, rfl⟩ | ⟨rfl, c, rfl⟩ | ⟨rfl, i, t, rfl⟩ | ⟨rfl, i, t, rfl⟩ | ⟨rfl, a, o, rfl, ho, hc⟩ | ⟨rfl, a, o, rfl, ho, hc⟩ | ⟨rfl, a, o, rfl, ho, hc⟩
  · refine none_isi hT fun tk => ?_
    have hb' : b = false := by
      subst hb
      simp only [List.mem_cons, List.not_mem_nil, or_false] at hT
      rcases hT with rfl | rfl | rfl | rfl | rfl <;> decide
    rw [← hb']; exact h tk
  all_goals (simp only [List.mem_cons, List.not_mem_nil, or_false] at hT)
  all_goals (rcases hT with rfl | rfl | rfl | rfl | rfl)
  all_goals first
    | (have hb' : b = true := by (rw [hb]; decide)
       subst hb'
       first
         | exact IsiPair.bool_int (h s.toks) | exact IsiPair.bool_bool (h s.toks) | exact IsiPair.int_int (h s.toks) | exact IsiPair.str_str (h s.toks)
         | exact IsiPair.tuple_tuple (by assumption) (by assumption) (h s.toks) | exact IsiPair.list_list (by assumption) (by assumption) (h s.toks))
    | (have hb' : b = false := by (rw [hb]; decide)
       subst hb'
       first
         | exact IsiPair.bool_str (h _) | exact IsiPair.bool_tuple (h _) | exact IsiPair.bool_list (h _)
         | exact IsiPair.int_bool (h _) | exact IsiPair.int_str (h _) | exact IsiPair.int_tuple (h _) | exact IsiPair.int_list (h _)
         | exact IsiPair.str_int (h _) | exact IsiPair.str_bool (h _) | exact IsiPair.str_tuple (h _) | exact IsiPair.str_list (h _)
         | exact IsiPair.tuple_int (by assumption) (by assumption) (h _) | exact IsiPair.tuple_bool (by assumption) (by assumption) (h _) | exact IsiPair.tuple_str (by assumption) (by assumption) (h _) | exact IsiPair.tuple_list (by assumption) (by assumption) (h _)
         | exact IsiPair.dict_int (by assumption) (by assumption) (h _) | exact IsiPair.dict_bool (by assumption) (by assumption) (h _) | exact IsiPair.dict_str (by assumption) (by assumption) (h _) | exact IsiPair.dict_tuple (by assumption) (by assumption) (h _) | exact IsiPair.dict_list (by assumption) (by assumption) (h _)
         | exact IsiPair.list_int (by assumption) (by assumption) (h _) | exact IsiPair.list_bool (by assumption) (by assumption) (h _) | exact IsiPair.list_str (by assumption) (by assumption) (h _) | exact IsiPair.list_tuple (by assumption) (by assumption) (h _))
theorem isiName_inv {k : String} {t : Str} {b : Bool} (hk : k ∈ ["NoneType", "bool", "int", "str", "tuple", "list", "dict"]) (h : isiName k t = some b) : ∃ T ∈ ["int", "bool", "str", "tuple", "list"], t = Str.ofString T ∧ b = (k == T || (k == "bool" && T == "int")) := by
  unfold isiName at h
  split at h
  · rename_i e; cases h; exact ⟨"int", by simp, e, by simp only [List.mem_cons, List.not_mem_nil, or_false] at hk; rcases hk with rfl | rfl | rfl | rfl | rfl | rfl | rfl <;> decide⟩
  · split at h
    · rename_i e; cases h; exact ⟨"bool", by simp, e, by simp only [List.mem_cons, List.not_mem_nil, or_false] at hk; rcases hk with rfl | rfl | rfl | rfl | rfl | rfl | rfl <;> decide⟩
    · split at h
      · rename_i e; cases h; exact ⟨"str", by simp, e, by simp only [List.mem_cons, List.not_mem_nil, or_false] at hk; rcases hk with rfl | rfl | rfl | rfl | rfl | rfl | rfl <;> decide⟩
      · split at h
        · rename_i e; cases h; exact ⟨"tuple", by simp, e, by simp only [List.mem_cons, List.not_mem_nil, or_false] at hk; rcases hk with rfl | rfl | rfl | rfl | rfl | rfl | rfl <;> decide⟩
        · split at h
          · rename_i e; cases h; exact ⟨"list", by simp, e, by simp only [List.mem_cons, List.not_mem_nil, or_false] at hk; rcases hk with rfl | rfl | rfl | rfl | rfl | rfl | rfl <;> decide⟩
          · cases h
theorem valid_isi (b : CxB X) : ValidF X k ("isinstance" : Str) isi0T := by
  refine ⟨.builtin "isinstance", b ("isinstance", .builtin "isinstance") (by simp [biTable]), Kp.builtin, ?_⟩
  intro vs σ K hT A s ρ vals Q E ar R hall ok er
  unfold isi0T at hT
  split at hT
  · rename_i v t
    obtain ⟨r, h1, h2⟩ := hT
    obtain ⟨a, c, rfl, hv, hc⟩ := hall.two_inv
    have hty : ∀ T ∈ ["int", "bool", "str", "tuple", "list"], t = Str.ofString T → c = .type T := fun T hT e => by
      have := hc.glob_inv
      subst e
      simp only [List.mem_cons, List.not_mem_nil, or_false] at hT
      rcases hT with rfl | rfl | rfl | rfl | rfl
      · have q := b ("int", .type "int") (by simp [biTable]); rw [this] at q; exact Option.some.inj q
      · have q := b ("bool", .type "bool") (by simp [biTable]); rw [this] at q; exact Option.some.inj q
      · have q := b ("str", .type "str") (by simp [biTable]); rw [this] at q; exact Option.some.inj q
      · have q := b ("tuple", .type "tuple") (by simp [biTable]); rw [this] at q; exact Option.some.inj q
      · have q := b ("list", .type "list") (by simp [biTable]); rw [this] at q; exact Option.some.inj q
    have fin : ∀ tk, Q (.bool r) { s with toks := tk } := fun tk => ok _ _ _ _ _ tk h2 R (.refl ..) (.ofBool r)
    unfold isiW at h1
    split at h1
    · rename_i x
      obtain ⟨kn, hk, h1⟩ := Option.bind_eq_some_iff.mp h1
      have hr := hv.d_inv
      cases x with
      | none => cases hk; cases hr; obtain ⟨T, hT, e, hb⟩ := isiName_inv (by simp) h1; rw [hty T hT e]; exact isi_sound hT (.inl ⟨rfl, rfl⟩) hb fin
      | bool x => cases hk; cases hr; obtain ⟨T, hT, e, hb⟩ := isiName_inv (by simp) h1; rw [hty T hT e]; exact isi_sound hT (.inr (.inl ⟨rfl, _, rfl⟩)) hb fin
      | int x => cases hk; cases hr; obtain ⟨T, hT, e, hb⟩ := isiName_inv (by simp) h1; rw [hty T hT e]; exact isi_sound hT (.inr (.inr (.inl ⟨rfl, _, _, rfl⟩))) hb fin
      | str x => cases hk; cases hr; obtain ⟨T, hT, e, hb⟩ := isiName_inv (by simp) h1; rw [hty T hT e]; exact isi_sound hT (.inr (.inr (.inr (.inl ⟨rfl, _, _, rfl⟩)))) hb fin
      | tuple x =>
        cases hk
        cases hr with
        | @tuple a o vs n xs as e1 e2 e3 e4 => obtain ⟨T, hT, e, hb⟩ := isiName_inv (by simp) h1; rw [hty T hT e]; exact isi_sound hT (.inr (.inr (.inr (.inr (.inl ⟨rfl, _, _, rfl, e1, e2⟩))))) hb fin
      | list x => cases hk
      | dict x => cases hk
    · obtain ⟨c, hi, h1⟩ := Option.bind_eq_some_iff.mp h1
      obtain ⟨_, rfl⟩ := hv.ref_inv
      obtain ⟨oc, its, hp, sh, _⟩ := R.cell _ _ hi
      cases c with
      | dct =>
        obtain ⟨T, hT, e', hb⟩ := isiName_inv (k := "dict") (by simp) h1
        rw [hty T hT e']
        exact isi_sound hT (.inr (.inr (.inr (.inr (.inr (.inr ⟨rfl, _, _, rfl, hp, sh.1⟩)))))) hb fin
      | lst xs =>
        obtain ⟨n, rfl⟩ := sh
        obtain ⟨T, hT, e', hb⟩ := isiName_inv (k := "list") (by simp) h1
        rw [hty T hT e']
        exact isi_sound hT (.inr (.inr (.inr (.inr (.inr (.inl ⟨rfl, _, _, rfl, hp, rfl⟩)))))) hb fin
      | rol xs =>
        obtain ⟨n, rfl⟩ := sh
        obtain ⟨T, hT, e', hb⟩ := isiName_inv (k := "list") (by simp) h1
        rw [hty T hT e']
        exact isi_sound hT (.inr (.inr (.inr (.inr (.inr (.inl ⟨rfl, _, _, rfl, hp, rfl⟩)))))) hb fin
    · cases h1
  · exact hT.elim
noncomputable abbrev vInt (i : Int) : V := .d (.int i)
theorem ints_items {n : Nat} {ρ : Nat → Addr} {h : Heap} : ∀ {ns : List Int} {as : List Value}, HasAll X n ρ h (ns.map vInt) as → ∃ xs : List (Int × Tok), as = xs.map (fun p => .int p.1 p.2) ∧ xs.map (·.1) = ns
  | [], _, x => by cases x; exact ⟨[], rfl, rfl⟩
  | i :: ns, _, x => by
    cases x with
    | cons h1 h2 =>
      obtain ⟨t, rfl⟩ := h1.int_inv
      obtain ⟨xs, rfl, e⟩ := ints_items h2
      exact ⟨(i, t) :: xs, rfl, by simp [e]⟩
noncomputable def sumT : Contract := fun vs σ K => match vs with
  | [.ref i] => ∃ ns : List Int, itemsAt σ i = some (ns.map vInt) ∧ K (.val (vInt ns.sum) σ)
  | _ => False
theorem OkE.grown {σ : Store} {ρ : Nat → Addr} {s : Shared} {K : OutE → Prop} {Q : Value → Shared → Prop} (ok : OkE X σ ρ s K Q) (R : Rep X ρ σ s.heap) {v : V} {a : Value} {h' : Heap} {tk : Nat} (hz : s.heap.objs.size ≤ h'.objs.size)
    (hk : ∀ b o, s.heap.get? b = some o → h'.get? b = some o) (hK : K (.val v σ)) (hv : Has X σ.length ρ h' v a) : Q a { s with heap := h', toks := tk } :=
  ok v σ ρ a h' tk hK (R.grow hk) (.ofGrow hz hk) hv
theorem valid_sum (hk100 : 100 ≤ k) (b : CxB X) : ValidF X k ("sum" : Str) sumT := by
  refine ⟨.builtin "sum", b ("sum", .builtin "sum") (by simp [biTable]), Kp.builtin, ?_⟩
  intro vs σ K hT A s ρ vals Q E ar R hall ok er
  unfold sumT at hT
  split at hT
  · obtain ⟨ns, h1, h2⟩ := hT
    obtain ⟨a, rfl, hv⟩ := hall.one_inv
    obtain ⟨_, rfl⟩ := hv.ref_inv
    obtain ⟨_, its, ⟨n, e⟩, ha⟩ := R.list h1
    obtain ⟨xs, rfl, exs⟩ := ints_items ha
    have e1 : (xs.map fun p => Value.int p.1 p.2).toArray = intItems xs.toArray := by simp [intItems]
    refine wpAny_sized (sum_intListG (ar.handled hk100) (xs := xs.toArray) ⟨_, e, rfl, n, by rw [e1]⟩ fun h' tk t' hk hz => ?_)
    refine ok.grown R hz hk h2 ?_
    have : preSum (numAt xs.toArray) xs.toArray.size = ns.sum := by
      rw [preSum_eq, List.take_of_length_le (by simp), ← exs]
    rw [← this]; exact .ofInt ..
  · exact hT.elim
noncomputable def minT : Contract := fun vs σ K => match vs with
  | [.d (.int i), .d (.int j)] => K (.val (vInt (if j < i then j else i)) σ)
  | _ => False
theorem valid_min (hk100 : 100 ≤ k) (b : CxB X) : ValidF X k ("min" : Str) minT := by
  refine ⟨.builtin "min", b ("min", .builtin "min") (by simp [biTable]), Kp.builtin, ?_⟩
  intro vs σ K hT A s ρ vals Q E ar R hall ok er
  unfold minT at hT
  split at hT
  · rename_i i j
    obtain ⟨a, c, rfl, hv, hc⟩ := hall.two_inv
    obtain ⟨t, rfl⟩ := hv.int_inv; obtain ⟨u, rfl⟩ := hc.int_inv
    refine wpAny_sized (min_two_ints (ar.handled hk100) fun h' tk hk hz => ?_)
    refine ok.grown R hz hk hT ?_
    split <;> exact .ofInt ..
  · exact hT.elim
noncomputable def listT : Contract := fun vs σ K => match vs with
  | [.ref i] => ∃ xs, itemsAt σ i = some xs ∧ xs.length ≤ 1000000 ∧ K (.val (.ref σ.length) (σ ++ [.lst xs]))
  | [.d (.tuple xs)] => xs.length ≤ 1000000 ∧ K (.val (.ref σ.length) (σ ++ [.lst (xs.map V.d)]))
  | _ => False
theorem readsAll_has {n : Nat} {ρ : Nat → Addr} {h : Heap} : ∀ {vs : List Value} {xs : List PyData}, RdsC X.bad h vs xs → HasAll X n ρ h (xs.map V.d) vs
  | _, _, .nil => .nil
  | _, _, .cons h1 h2 => .cons (.d h1) (readsAll_has h2)
theorem valid_list (b : CxB X) : ValidF X k ("list" : Str) listT := by
  refine ⟨.type "list", b ("list", .type "list") (by simp [biTable]), Kp.type, ?_⟩
  intro vs σ K hT A s ρ vals Q E ar R hall ok er
  have main : ∀ (xs : List V) (its : List Value) (it : Addr) (T : String) (o : Obj) (n : Nat), (T = "list" ∨ T = "tuple") → s.heap.get? it = some o → o.cls = .type T → o.data = .seq its.toArray n → HasAll X σ.length ρ s.heap xs its → xs.length ≤ 1000000 →
      K (.val (.ref σ.length) (σ ++ [.lst xs])) → wpAny (model X.prog X.w) A (call (.type "list") [.ref it]) Q E s := by
    intro xs its it T o n hT ho hc hd ha hlen hK
    refine wpAny_sized (call_list_seq it hT ho hc hd (fun h' c' hk hD hz => ?_) (by rw [List.size_toArray, sizeLine_eq, ← ha.length]; omega))
    have hz : s.heap.objs.size ≤ h'.objs.size := hz
    have hfree : s.heap.get? s.heap.objs.size = none := Heap.get?_none_of_le (Nat.le_refl _)
    obtain ⟨ρ', Ra, hρa, hDa⟩ := (R.grow hk).adopt hD (ha.mono (Nat.le_refl _) (fun _ _ => rfl) fun b o e _ => hk b o e) (fun i hi => Nat.ne_of_lt (R.lt hi)) (by
      cases e : X.B.get? s.heap.objs.size with
      | none => rfl
      | some o => exact absurd (Heap.lt_size (R.base _ _ e)) (Nat.lt_irrefl _))
    have := ok _ _ ρ' (.ref (ρ' σ.length)) h' s.toks hK Ra ⟨hz, fun b o e _ _ => ⟨o.slots, hk b o e, fun _ => rfl⟩, fun b o es n e d => ⟨o, es, n, hk _ _ e, d⟩, by simp, hρa, fun i h1 h2 => by
      have : i = σ.length := by simp at h2; omega
      subst this; rw [hDa]; exact Nat.le_refl _⟩ (.ref (by simp))
    rw [hDa] at this
    exact this
  unfold listT at hT
  split at hT
  · obtain ⟨xs, h1, h2, h3⟩ := hT
    obtain ⟨a, rfl, hv⟩ := hall.one_inv
    obtain ⟨_, rfl⟩ := hv.ref_inv
    obtain ⟨_, its, ⟨n, e⟩, ha⟩ := R.list h1
    exact main xs its _ "list" _ n (.inl rfl) e rfl rfl ha h2 h3
  · obtain ⟨h2, h3⟩ := hT
    obtain ⟨a, rfl, hv⟩ := hall.one_inv
    have r := hv.d_rdc
    cases r with
    | @tuple a o vs n ys e1 e2 e3 eb e4 =>
      exact main _ vs.toList a "tuple" o n (.inr rfl) e1 e2 (by simpa using e3) (readsAll_has e4) (by simpa using h2) h3
  · exact hT.elim
noncomputable def rangeT : Contract := fun vs σ K => match vs with
  | [.d (.int n)] => (-(2 ^ 62) < n ∧ n < 2 ^ 62) ∧ K (.val (.rng 0 n) σ)
  | [.d (.int a), .d (.int n)] => ((-(2 ^ 62) < a ∧ a < 2 ^ 62) ∧ (-(2 ^ 62) < n ∧ n < 2 ^ 62)) ∧ K (.val (.rng a n) σ)
  | _ => False
theorem small_of {a n : Int} (h1 : -(2 ^ 62) < a ∧ a < 2 ^ 62) (h2 : -(2 ^ 62) < n ∧ n < 2 ^ 62) : Builtin.Range.small a n 1 = true := by
  unfold Builtin.Range.small
  simp only [Builtin.Range.rangeSize, Builtin.Range.rangeFitsLong]
  simp only [show (1 : Int) > 0 by decide, if_true, Int.ediv_one]
  simp only [Bool.and_eq_true, Bool.or_eq_true, decide_eq_true_eq, beq_iff_eq]
  split <;> (try simp only [Int.sub_self]) <;> omega
theorem valid_range (b : CxB X) : ValidF X k ("range" : Str) rangeT := by
  refine ⟨.type "range", b ("range", .type "range") (by simp [biTable]), Kp.type, ?_⟩
  intro vs σ K hT A s ρ vals Q E ar R hall ok er
  unfold rangeT at hT
  split at hT
  · obtain ⟨h1, h2⟩ := hT
    obtain ⟨a, rfl, hv⟩ := hall.one_inv
    obtain ⟨t, rfl⟩ := hv.int_inv
    refine call_range_1 ?_
    obtain ⟨R', g'⟩ := R.grow1 { cls := .type "range", data := .fields #[.int 0 s.toks, .int _ t, .int 1 (s.toks + 1)] }
    exact ok _ _ _ _ _ _ h2 R' g' (.rng (IsRange.new ..) (small_of (by omega) h1))
  · obtain ⟨⟨h0, h1⟩, h2⟩ := hT
    obtain ⟨a, c, rfl, hv, hc⟩ := hall.two_inv
    obtain ⟨t, rfl⟩ := hv.int_inv; obtain ⟨u, rfl⟩ := hc.int_inv
    refine call_range_2 ?_
    obtain ⟨R', g'⟩ := R.grow1 { cls := .type "range", data := .fields #[.int _ t, .int _ u, .int 1 s.toks] }
    exact ok _ _ _ _ _ _ h2 R' g' (.rng (IsRange.new ..) (small_of h0 h1))
  · exact hT.elim
noncomputable def appendT : Contract := fun vs σ K => match vs with
  | [.ref i, v] => ∃ xs, σ[i]? = some (.lst xs) ∧ xs.length ≤ 1000000 ∧ K (.val (.d .none) (σ.set i (.lst (xs ++ [v]))))
  | _ => False
theorem valid_append : ValidM X k "list" ("append" : Str) appendT := by
  refine ⟨"list.append", F.plainAttrs_list, slot_list_append, type_list_append, ?_⟩
  intro vs σ K hT A s ρ vals Q E ar R hall ok er
  unfold appendT at hT
  split at hT
  · rename_i i v
    obtain ⟨xs, h1, h2, h3⟩ := hT
    obtain ⟨a, c, rfl, hv, hc⟩ := hall.two_inv
    obtain ⟨_, rfl⟩ := hv.ref_inv
    obtain ⟨_, its, e, ⟨n, rfl⟩, ha⟩ := R.cell _ _ h1
    have ha : HasAll X σ.length ρ s.heap xs its := ha
    refine wpAny_list_append_plain ⟨n, e⟩ (fun h' hp hsb => ?_) (by rw [List.size_toArray, sizeLine_eq, ← ha.length]; omega)
    obtain ⟨n', hp⟩ := hp
    have hp' : h'.get? (ρ i) = some { cls := .type "list", data := .seq (its ++ [c]).toArray n' } := by simpa using hp
    obtain ⟨R', g'⟩ := R.setCell h1 hsb hp' (ha.append (.one hc))
    exact ok _ _ _ _ _ s.toks h3 R' g' .ofNone
  · exact hT.elim
end
end Mine

set_option Elab.async false
set_option autoImplicit false
set_option linter.unusedVariables false
set_option maxRecDepth 100000
namespace Mine
open PySem PySem.Spec PySem.Calls PyProof.Rows PySem.W
noncomputable def gaIn (K : Frag) (C : Addr) : Bool := (findIn K (.ref C) "__getattribute__" == some (some (.builtin "BaseException.__getattribute__")) && findIn K (.ref C) "__getattr__" == some none) && subIn K (.ref C) (.type "BaseException") == some true
theorem gaIn_of {K : Frag} {C : Addr} (h : gaIn K C = true) : findIn K (.ref C) "__getattribute__" = some (some (.builtin "BaseException.__getattribute__")) ∧ findIn K (.ref C) "__getattr__" = some none ∧ subIn K (.ref C) (.type "BaseException") = some true := by
  unfold gaIn at h
  simp only [Bool.and_eq_true, beq_iff_eq] at h
  exact ⟨h.1.1, h.1.2, h.2⟩
noncomputable def famOne (fam : List Str) (K : Frag) (c : Str) : Bool := match nsIn K mainGlobals c with
  | some (some (.ref C)) => (((((((excIn K C bmV "ValueError.__new__" && gaIn K C) && (clsIn K C).isSome) && findIn K (.ref C) "__class__" == some (some (.builtin "object.__class__"))) && mroIn K C (.type "object") == some true) &&
      subIn K (.ref C) (.type "ValueError") == some true) && typeIn K (.ref C) == some (.type "type")) && fam.all fun D => match nsIn K mainGlobals D with
        | some (some (.ref Dc)) => subIn K (.ref C) (.ref Dc) == some (kinB c D)
        | _ => false)
  | _ => false
noncomputable def famB (fam : List Str) (K : Frag) : Bool := (fam.all (famOne fam K) && specialIn K (.builtin "object.__class__") "__get__" == some (some (.builtin "getset_descriptor.__get__"))) && takesIn K (.builtin "object.__class__") == some true
structure FamOne (fam : List Str) (K : Frag) (c : Str) (C : Addr) : Prop where
  at_ : nsIn K mainGlobals c = some (some (.ref C))
  exc : excIn K C bmV "ValueError.__new__" = true
  plain : gaIn K C = true
  cls : (clsIn K C).isSome = true
  find : findIn K (.ref C) "__class__" = some (some (.builtin "object.__class__"))
  mro : mroIn K C (.type "object") = some true
  ve : subIn K (.ref C) (.type "ValueError") = some true
  typ : typeIn K (.ref C) = some (.type "type")
  sub : ∀ D ∈ fam, ∀ Dc, nsIn K mainGlobals D = some (some (.ref Dc)) → subIn K (.ref C) (.ref Dc) = some (kinB c D)
theorem famOne_of {fam : List Str} {K : Frag} {c : Str} (h : famOne fam K c = true) : ∃ C, FamOne fam K c C := by
  unfold famOne at h
  split at h
  · rename_i C hC
    simp only [Bool.and_eq_true, beq_iff_eq, List.all_eq_true] at h
    obtain ⟨⟨⟨⟨⟨⟨⟨h1, h2⟩, h3⟩, h4⟩, h5⟩, h6⟩, h7⟩, h8⟩ := h
    refine ⟨C, hC, h1, h2, h3, h4, h5, h6, h7, fun D hD Dc hDc => ?_⟩
    have := h8 D hD
    rw [hDc] at this
    exact beq_iff_eq.mp this
  · cases h
structure Fam (fam : List Str) (K : Frag) : Prop where
  one : ∀ c ∈ fam, ∃ C, FamOne fam K c C
  get : specialIn K (.builtin "object.__class__") "__get__" = some (some (.builtin "getset_descriptor.__get__"))
  takes : takesIn K (.builtin "object.__class__") = some true
theorem fam_of {fam : List Str} {K : Frag} (h : famB fam K = true) : Fam fam K := by
  unfold famB at h
  simp only [Bool.and_eq_true, beq_iff_eq, List.all_eq_true] at h
  exact ⟨fun c hc => famOne_of (h.1.1 c hc), h.1.2, h.2⟩
section
variable {fam : List Str} {prog : Program} {w : World} {A : Around} {E : Value → Shared → Prop} {s : Shared} {K : Frag} {x D : Addr} {ox : Obj} {r : Bool}
theorem ex_body {Q : PySem.Fin → Shared → Prop} {c : Str} {tk : Tok} (fm : Fam fam K) (f : FamOne fam K c D) (X : K.In s.heap) (I : InstAt s.heap x ox D none) (h : Q (.done (.ret (.ref D))) s) :
    wpAny (model prog w) A (Builtin.«object.__getattribute__» ⟨[.ref x, .str ("__class__" : Str) tk], []⟩) Q E s := by
  have hf : findObj K D none "__class__" = some (.bind (.builtin "getset_descriptor.__get__") (.builtin "object.__class__")) := by
    obtain ⟨cd, hc⟩ := Option.isSome_iff_exists.mp f.cls
    unfold findObj
    rw [hc, Option.bind_some, f.find, Option.bind_some]
    simp [fm.get, fm.takes]
  have L0 := I.type (M := model prog w)
  have LF := looks_find (M := model prog w) X I hf
  obtain ⟨h0, g, d, tt, os⟩ := s
  unfold Builtin.«object.__getattribute__»
  have e1 : slotArgs "__getattribute__" 1 ⟨[.ref x, .str ("__class__" : Str) tk], []⟩ = pure (.ref x, [.str ("__class__" : Str) tk]) := rfl
  rw [e1]
  refine wpAny_bind (wpAny_pure ?_)
  refine wpAny_bind (wpAny_pure (wpAny_bind (L0.at (wpAny_bind (LF.at ?_)))))
  show wpAny _ _ (Builtin.ObjectAttr.bindTo (.builtin "getset_descriptor.__get__") (.builtin "object.__class__") (.ref x) (.ref D)) _ _ _
  show wpAny _ _ (holding [.builtin "object.__class__"] (call (.builtin "getset_descriptor.__get__") [.builtin "object.__class__", .ref x, .ref D]) >>= ret) _ _ _
  refine wpAny_bind (wpAny_holding (wpAny_call (class_get (ox := ox) (od := none) X I f.mro ?_)))
  exact wpAny_pure h
theorem ga_kind : builtinKind "BaseException.__getattribute__" = some .slot := by decide +kernel
theorem ga_split : splitId "BaseException.__getattribute__" = some ("BaseException", "__getattribute__") := by decide +kernel
theorem ga_check {Q : Unit → Shared → Prop} {tk : Tok} (L3 : Looks (model prog w) s.heap (isInstance (.ref x) (.type "BaseException")) true) (h : Q () s) : wpAny (model prog w) A (checkBuiltinCall "BaseException.__getattribute__" ⟨[.ref x, .str ("__class__" : Str) tk], []⟩) Q E s := by
  have hk := ga_kind
  have hs := ga_split
  have ha := PySem.F.args_bexc_ga (.ref x) (.str ("__class__" : Str) tk)
  obtain ⟨h0, g, d, tt, os⟩ := s
  simp only [checkBuiltinCall, hk, hs]
  refine wpAny_bind (L3.at ?_)
  repeat (first | assumption | wp_step)
theorem ex_ga {R : Result → Shared → Prop} {c : Str} {tk : Tok} (fm : Fam fam K) (f : FamOne fam K c D) (X : K.In s.heap) (I : InstAt s.heap x ox D none) (h : R (.ok (.ret (.ref D))) s) :
    codeAny (model prog w) A (.call (.builtin "BaseException.__getattribute__") ⟨[.ref x, .str ("__class__" : Str) tk], []⟩) R s := by
  have L3 : Looks (model prog w) s.heap (isInstance (.ref x) (.type "BaseException")) true := I.type.andThen (looks_subIn X (gaIn_of f.plain).2.2)
  exact codeAny_call_builtin PySem.F.attr_ValueError.ga.plain PySem.F.entry_bexc_ga (ga_check L3 (ex_body fm f X I h))
theorem ex_class {Q : Option Value → Shared → Prop} {c : Str} (fm : Fam fam K) (f : FamOne fam K c D) (X : K.In s.heap) (I : InstAt s.heap x ox D none) (h : ∀ tk, Q (some (.ref D)) { s with toks := tk }) : wpAny (model prog w) A (getAttr? (.ref x) "__class__") Q E s := by
  obtain ⟨h0, g, d, tt, os⟩ := s
  obtain ⟨g1, g2, g3⟩ := gaIn_of f.plain
  have L0 := I.type (M := model prog w)
  have L1 := looks_findIn (M := model prog w) X g1
  have L2 := looks_findIn (M := model prog w) X g2
  unfold getAttr? getAttrBy? getAttrBy
  refine wpAny_bind (wpAny_mkText (wpAny_bind (wpAny_attempt (wpAny_holding (wpAny_bind (L0.at (wpAny_bind (L1.at ?_))))))))
  dsimp only
  have hx2 : (Value.builtin "BaseException.__getattribute__" == Value.builtin "object.__getattribute__") = false := by decide +kernel
  rw [if_neg (by rw [hx2, Bool.and_false]; decide)]
  unfold getAttrByItsOwn hookBefore
  rw [if_pos (show onTheHeap (Value.ref D) = true from rfl)]
  refine wpAny_bind (L2.at ?_)
  refine wpAny_bind (wpAny_attempt (wpAny_holding ?_))
  unfold callGetattribute
  rw [if_neg (by rw [Bool.false_and]; decide)]
  unfold boundAndCalled
  refine wpAny_bind (wpAny_of_eq (PySem.F.attr_ValueError.ga.bind (.ref x)) ?_)
  refine wpAny_call (ex_ga (s := ⟨h0, g, d, tt + 1, os⟩) fm f X I ?_)
  exact handed_on rfl (wpAny_pure (h _))
theorem isType_in {M : Model} {h : Heap} (X : K.In h) (hc : (clsIn K D).isSome = true) : Looks M h (isType (.ref D)) true := by
  obtain ⟨cd, hc⟩ := Option.isSome_iff_exists.mp hc
  unfold clsIn at hc
  split at hc
  · rename_i c' d' cd' sl' ho
    intro A' Q' E' s' k q
    unfold isType loadHead
    exact wpAny_bind (wpAny_loadPart (k _ _ (X _ _ ho)) (wpAny_pure q))
  · cases hc
theorem ex_nested {c : Value} {cn : Str} {dep : Int} {tk : Tok} {Q : PySem.Fin → Shared → Prop} (fm : Fam fam K) (f : FamOne fam K cn D) (X : K.In s.heap) (I : InstAt s.heap x ox D none) (hty : Looks (model prog w) s.heap (typeOf c) (.type "type")) (his : Looks (model prog w) s.heap (isType c) true)
    (hne : (Value.ref D == c) = true → r = true) (hsub : Looks (model prog w) s.heap (isSubtype (.ref D) c) r) (h : ∀ tk, Q (.done (.ret (.bool r))) { s with toks := tk }) :
    wpAny (model prog w) A (Builtin.«isinstance.nested» ⟨[.ref x, c, .int dep tk], []⟩) Q E s := by
  have hisD := isType_in (M := model prog w) X f.cls
  obtain ⟨h0, g, d, tt, os⟩ := s
  have L0 := I.type (M := model prog w)
  have LI : Looks (model prog w) h0 (isInstance (.ref x) c) r := L0.andThen hsub
  unfold Builtin.«isinstance.nested»
  refine wpAny_bind (L0.at ?_)
  by_cases q : (Value.ref D == c) = true
  · rw [if_pos q]
    have := hne q
    subst this
    exact wpAny_bind (wpAny_rule (wpAny_bind (wpAny_pure (wpAny_pure (h tt)))))
  rw [if_neg q]
  refine wpAny_bind (hty.at ?_)
  rw [if_pos (by decide)]
  k_delta "plainIsInstance"
  refine wpAny_bind (wpAny_bind (his.at ?_))
  simp only [Bool.not_true, Bool.false_eq_true, if_false]
  refine wpAny_bind (LI.at ?_)
  cases r with
  | true =>
    simp only [if_true]
    exact wpAny_pure (wpAny_pure (h tt))
  | false =>
    simp only [Bool.false_eq_true, if_false]
    refine wpAny_bind (ex_class fm f X I fun tk' => ?_)
    refine wpAny_bind (hisD.at ?_)
    simp only [Bool.not_true, Bool.false_eq_true, if_false]
    refine wpAny_bind (wpAny_rule ?_)
    refine hsub.at ?_
    first
      | exact wpAny_pure (h _)
      | exact wpAny_pure (wpAny_pure (h _))
      | exact wpAny_bind (wpAny_pure (wpAny_pure (h _)))
theorem ex_call {c : Value} {cn : Str} {Q : Value → Shared → Prop} (fm : Fam fam K) (f : FamOne fam K cn D) (X : K.In s.heap) (I : InstAt s.heap x ox D none) (hty : ∀ (M : Model) h', K.In h' → Looks M h' (typeOf c) (.type "type")) (his : ∀ (M : Model) h', K.In h' → Looks M h' (isType c) true)
    (hne : (Value.ref D == c) = true → r = true) (hsub : ∀ (M : Model) h', K.In h' → Looks M h' (isSubtype (.ref D) c) r) (h : ∀ tk, Q (.bool r) { s with toks := tk }) : wpAny (model prog w) A (call (.builtin "isinstance") [.ref x, c]) Q E s :=
  call_isinstance (S := fun _ R s => (K.In s.heap ∧ InstAt s.heap x ox D none) ∧ ∀ tk, R (.ok (.ret (.bool r))) { s with toks := tk })
    (fun _ _ _ _ _ hs => isinstance_outer (ex_nested fm f hs.1.1 hs.1.2 (hty _ _ hs.1.1) (his _ _ hs.1.1) hne (hsub _ _ hs.1.1) hs.2) (by intro q; cases q)) ⟨⟨X, I⟩, h⟩
end
structure CxE (fam : List Str) (X : Cx) : Prop where
  fam : ∃ K : Frag, Fam fam K ∧ K.In X.B
theorem kinB_self (c : Str) : kinB c c = true := by unfold kinB; simp
section
variable {fam : List Str} {X : Cx} {k : Nat}
theorem CxE.exc (e : CxE fam X) {p : Program} {loose : List Str} (T : TopRead p loose X.mg X.mb X.B) {c : Str} (hc : fam.contains c = true) : ExcOk X c := by
  obtain ⟨K, fm, KX⟩ := e.fam
  obtain ⟨C, f⟩ := fm.one c (by simpa using hc)
  exact ⟨C, own_of_in KX T f.at_ f.exc⟩
theorem CxE.kin (e : CxE fam X) (cx : CxOk X) {c D : Str} (hc : fam.contains c = true) (hD : fam.contains D = true) : SubOk X c D := by
  obtain ⟨K, fm, KX⟩ := e.fam
  obtain ⟨C, f⟩ := fm.one c (by simpa using hc)
  obtain ⟨Dc, fD⟩ := fm.one D (by simpa using hD)
  refine ⟨C, Dc, mg_of KX cx.g f.at_, mg_of KX cx.g fD.at_, fun M A Q E s hk hq => ?_⟩
  exact looks_subIn (M := M) KX (f.sub D (by simpa using hD) Dc fD.at_) A Q E s hk hq
noncomputable def isiT (fam : List Str) : Contract := fun vs σ K => match vs with
  | [.exc c, .glob D] => (fam.contains c = true ∧ (fam.contains D = true ∨ D = ("ValueError" : Str))) ∧ K (.val (.d (.bool (kinB c D))) σ)
  | vs => isi0T vs σ K
theorem isi_of {fam : List Str} {σ : Store} {v : V} {t : Str} {b : Bool} {K : OutE → Prop} (h : isiW σ v t = some b) (hK : K (.val (.d (.bool b)) σ)) : isiT fam [v, .glob t] σ K := by
  cases v <;> first | exact ⟨b, h, hK⟩ | cases h
theorem valid_isiX (b : CxB X) (ce : CxE fam X) (cx : CxOk X) : ValidF X k ("isinstance" : Str) (isiT fam) := by
  obtain ⟨f, h1, h2, h3⟩ := valid_isi (k := k) b
  have hf : f = .builtin "isinstance" := by
    have := b ("isinstance", .builtin "isinstance") (by simp [biTable])
    rw [h1] at this; exact Option.some.inj this
  subst hf
  refine ⟨_, h1, h2, ?_⟩
  intro vs σ K hT A s ρ vals Q E ar R hall ok er
  unfold isiT at hT
  split at hT
  · rename_i c D
    obtain ⟨⟨hc, hD⟩, hK⟩ := hT
    obtain ⟨a, v, rfl, ha, hv⟩ := hall.two_inv
    have hv := hv.glob_inv
    obtain ⟨K, fm, KX⟩ := ce.fam
    obtain ⟨C, f⟩ := fm.one c (by simpa using hc)
    cases ha with
    | @exc _ C' e oe fs hm he hcls hd hdict =>
      have hm' := mg_of KX cx.g f.at_
      have hCC : C' = C := by rw [hm] at hm'; exact Value.ref.inj (Option.some.inj hm')
      rw [hCC] at hcls
      have KS : K.In s.heap := KX.keeps R.base
      have I : InstAt s.heap e oe C none := ⟨he, hcls, (by unfold notCls; rw [hd]), by rw [hdict]; trivial⟩
      have fin : ∀ tk, Q (.bool (kinB c D)) { s with toks := tk } := fun tk => ok _ _ _ _ _ tk hK R (.refl ..) (.ofBool _)
      rcases hD with hD | rfl
      · obtain ⟨Dc, fD⟩ := fm.one D (by simpa using hD)
        have hmD := mg_of KX cx.g fD.at_
        unfold Cx.val at hv
        rw [hmD] at hv
        cases hv
        refine ex_call fm f KS I (fun _ _ X' => looks_typeIn X' fD.typ) (fun _ _ X' => isType_in X' fD.cls) (fun q => ?_) (fun _ _ X' => looks_subIn X' (f.sub D (by simpa using hD) Dc fD.at_)) fin
        have q := Value.ref.inj (beq_iff_eq.mp q)
        have s1 := f.sub D (by simpa using hD) Dc fD.at_
        have s2 := f.sub c (by simpa using hc) C f.at_
        rw [← q, s2, kinB_self] at s1
        exact (Option.some.inj s1).symm
      · have hve := b ("ValueError", .type "ValueError") (by simp [biTable])
        rw [hv] at hve
        cases hve
        refine ex_call fm f KS I (fun _ _ _ => Looks.of_pure (by kernel_rfl)) (fun _ _ _ => Looks.of_pure rfl) (fun q => by cases beq_iff_eq.mp q) (fun _ _ X' => ?_) fin
        have : kinB c ("ValueError" : Str) = true := by unfold kinB; simp
        rw [this]
        exact looks_subIn X' f.ve
  · exact h3 vs σ K hT A s ρ vals Q E ar R hall ok er
end
end Mine

set_option Elab.async false
set_option autoImplicit false
set_option linter.unusedVariables false
namespace Mine
open PySem PySem.Spec PySem.Calls PyProof.Rows
theorem cx_of_top {bd : Addr → Prop} {p prog : Program} {w : World} {loose : List Str} {mean : ExcName → Option Value} {mg mb : Str → Option Value} {h : Heap} (T : Top p loose mean mg mb h) : CxOk ⟨prog, w, h, mg, mb, bd⟩ := ⟨T.g, T.b, T.nolimit⟩
theorem boot_table : (biTable.all fun q => (bootBuiltins q.1 == some q.2) && q.1 != ("__name__" : Str)) = true := by decide +kernel
noncomputable def freeB (p : Program) (loose : List Str) (x : Str) : Bool :=
  !startupNames.contains x && !loose.contains x && !((recsOf p).map (·.name)).contains x && !((litsOf p).map (·.1)).contains x && !((clssOf p loose).map (·.name)).contains x
theorem free_of_top {p : Program} {loose : List Str} {mean : ExcName → Option Value} {mg mb : Str → Option Value} {h : Heap} (T : Top p loose mean mg mb h) {x : Str} (hx : freeB p loose x = true) : mg x = none := by
  unfold freeB at hx
  simp only [Bool.and_eq_true, Bool.not_eq_true', List.contains_eq_mem, decide_eq_false_iff_not] at hx
  obtain ⟨⟨⟨⟨h1, h2⟩, h3⟩, h4⟩, h5⟩ := hx
  exact T.free x h1 h2 h3 h4 h5
theorem cxb_of_top {bd : Addr → Prop} {p prog : Program} {w : World} {loose : List Str} {mean : ExcName → Option Value} {mg mb : Str → Option Value} {h : Heap} (T : Top p loose mean mg mb h)
    (hf : (biTable.all fun q => freeB p loose q.1) = true) : CxB ⟨prog, w, h, mg, mb, bd⟩ := by
  intro q hq
  have h1 := List.all_eq_true.mp hf q hq
  have h2 := List.all_eq_true.mp boot_table q hq
  simp only [Bool.and_eq_true, beq_iff_eq, bne_iff_ne, ne_eq] at h2
  show (mg q.1).or (mb q.1) = _
  rw [free_of_top T h1]
  show mb q.1 = _
  rw [T.builtins q.1 h2.2]
  exact h2.1
theorem isFn_of_top {bd : Addr → Prop} {p prog : Program} {w : World} {loose : List Str} {mean : ExcName → Option Value} {mg mb : Str → Option Value} {h : Heap} (T : Top p loose mean mg mb h) {f : Str} {params : Arguments} {body : List Stmt} {scope : Scope} (j : Nat)
    (hr : ((recsOf p)[j]?).map (fun r => (r.name, r.params, r.body, r.scope)) = some (f, params, body, scope)) (h1 : params.posonlyargs = []) (h2 : params.vararg = none) (h3 : params.kwonlyargs = []) (h4 : params.kwarg = none) :
    IsFn ⟨prog, w, h, mg, mb, bd⟩ f (params.args.map (·.arg)) body scope := by
  cases e : (recsOf p)[j]? with
  | none => rw [e] at hr; cases hr
  | some r =>
    rw [e] at hr
    obtain ⟨e1, e2, e3, e4⟩ : r.name = f ∧ r.params = params ∧ r.body = body ∧ r.scope = scope := by
      have := Option.some.inj hr
      simp only [Prod.mk.injEq] at this
      exact this
    obtain ⟨a, o, pm, code, doc, q1, q2, q3, q4⟩ := T.fn _ (List.mem_of_getElem? e)
    rw [e1, e2, e3, e4] at q3
    rw [e1] at q1 q4
    exact ⟨⟨a, o, pm, code, doc, params, q1, q2, q3, q4, h1, rfl, h2, h3, h4⟩⟩
end Mine

set_option Elab.async false
set_option autoImplicit false
set_option linter.unusedVariables false
namespace Mine
open PySem PySem.Spec PySem.Calls PyProof.Rows
theorem upd_eq {m : Loc} {x : Str} {v : V} : upd m x v x = some v := if_pos rfl
theorem upd_ne {m : Loc} {x y : Str} {v : V} {r : Option V} (h : (y == x) = false) (hr : m y = r) : upd m x v y = r := by
  unfold upd; rw [if_neg (fun e => by rw [e] at h; simp at h)]; exact hr
theorem look_eq {x : Str} {v : V} {xs : List Str} {vs : List V} : (List.lookup x (List.zip (x :: xs) (v :: vs))) = some v := by
  rw [List.zip_cons_cons, List.lookup_cons, beq_self_eq_true]
theorem look_ne {x y : Str} {v : V} {xs : List Str} {vs : List V} {r : Option V} (h : (y == x) = false) (hr : List.lookup y (List.zip xs vs) = r) : (List.lookup y (List.zip (x :: xs) (v :: vs))) = r := by
  rw [List.zip_cons_cons, List.lookup_cons, h]; exact hr
theorem comp_free {names : List (Str × NameKind)} {m : Loc} {y : Str} {r : Option V} (h : (names.lookup y == some .free) = true) (hr : m y = r) : compLoc names m y = r := by
  unfold compLoc; rw [beq_iff_eq.mp h]; exact hr
section
variable {X : Cx} {k : Nat} {env : Env} {sc : Kinds} {m : Loc} {σ : Store} {K : OutE → Prop} {f : Bool → Store → Prop} {p q : Pos}
theorem zqbe {g : V → Store → Prop} {v : V} (h : g v σ) : thenE K g (.val v σ) := h
theorem zqbh {g : V → Store → Prop} {v : V} (h : g v σ) : noExn g (.val v σ) := h
theorem zqq {K : OutS → Prop} {J : Loc → Store → Prop} (h : J m σ) : loopS K J (.next m σ) := h
theorem zqo {K : OutS → Prop} {J : Loc → Store → Prop} {v : V} (h : K (.ret v σ)) : loopS K J (.ret v σ) := h
theorem zqci {K : OutS → Prop} {J : Loc → Store → Prop} (h : J m σ) : loopN K J (.next m σ) := h
theorem zqbg {K : OutS → Prop} {J : Loc → Store → Prop} {v : V} (h : K (.ret v σ)) : loopN K J (.ret v σ) := h
theorem zqm {K : OutS → Prop} {J : Loc → Store → Prop} {c : Str} (h : K (.exn c m σ)) : loopS K J (.exn c m σ) := h
theorem zqac {g : V → Store → Prop} {c : Str} (h : K (.exn c σ)) : thenE K g (.exn c σ) := h
theorem zqag {K : OutS → Prop} {c : Str} (h : K (.exn c m σ)) : liftS K m (.exn c σ) := h
theorem zqak {K : OutS → Prop} {x : Str} {v : V} (h : K (.ret v σ)) : asK x K (.ret v σ) := h
noncomputable def famAll : List Str := ["BidError", "BadWish", "BadPrice", "BadPieces", "Uneven", "NoSuch", "Unread"]
noncomputable abbrev isiAllT : Contract := isiT famAll
theorem zqck {c D : Str} (h1 : famAll.contains c = true) (h2 : famAll.contains D = true ∨ D = ("ValueError" : Str)) (h : K (.val (.d (.bool (kinB c D))) σ)) : isiT famAll [.exc c, .glob D] σ K := ⟨⟨h1, h2⟩, h⟩
theorem zqap {K : OutS → Prop} {c D x : Str} {b : List Stmt} (h1 : SubOk X c D) (h2 : kinB c D = true) (h : SS X 99 env sc (execs b env) (upd m x (.exc c)) σ (asK x K)) :
    tryK K (fun c m σ => (SubOk X c D ∧ kinB c D = true) ∧ SS X 99 env sc (execs b env) (upd m x (.exc c)) σ (asK x K)) (.exn c m σ) := ⟨⟨h1, h2⟩, h⟩
theorem zqg {l : Nat} {xs : List V} {f : Nat → Prop} {name : Str} {T : Contract} (h : itemsAt σ l = some xs) (hm : ValidM X k "list" name T) (hf : f l) : ∃ l' ys, V.ref l = .ref l' ∧ itemsAt σ l' = some ys ∧ f l' := ⟨l, xs, rfl, h, hf⟩
theorem zqcd {vs : List V} {P : Prop} (h1 : Nat.ble vs.length 1000000 = true) (h : P) : vs.length ≤ 1000000 ∧ P := ⟨Nat.le_of_ble_eq_true h1, h⟩
theorem zqby {a b c : PyData} (h : K (.val (.d (.tuple [a, b, c])) σ)) : ∃ ds, [V.d a, V.d b, V.d c] = ds.map V.d ∧ ds.length ≤ 1000000 ∧ K (.val (.d (.tuple ds)) σ) := ⟨[a, b, c], rfl, by simp, h⟩
theorem zqbz {i : Int} {g : Int → Prop} (h : g i) : ∃ j, V.d (.int i) = .d (.int j) ∧ g j := ⟨i, rfl, h⟩
theorem zqbb {i j : Int} {g : Bool → Prop} (h : g (decide (i = j))) : cmpW X .Eq (.d (.int i)) (.d (.int j)) σ g := by first | exact zqk rfl rfl rfl rfl h | exact zqp rfl rfl rfl rfl h
theorem zqaw {i j : Int} {g : Bool → Prop} (h : g (!decide (i = j))) : cmpW X .NotEq (.d (.int i)) (.d (.int j)) σ g := by first | exact zqk rfl rfl rfl rfl h | exact zqp rfl rfl rfl rfl h
theorem shaped_str {x : Str} (h : PyData.strOk x = true) : SeqAt.shaped (.str x) = true := by
  unfold SeqAt.shaped
  rw [Bool.and_eq_true]
  exact ⟨by simpa [PyData.canLay0] using h, by simp [PyData.depth]⟩
theorem zqcm {i j : Str} {g : Bool → Prop} (h1 : PyData.strOk i = true) (h2 : PyData.strOk j = true) (h : g (i == j)) : cmpW X .Eq (.d (.str i)) (.d (.str j)) σ g := by first | exact zqk rfl rfl (shaped_str h1) (shaped_str h2) h | exact zqp rfl rfl (shaped_str h1) (shaped_str h2) h
theorem zqad {b : Bool} {g : Bool → Prop} (h : g b) : ∃ c, truthW (.d (.bool b)) = some c ∧ g c := ⟨b, rfl, h⟩
theorem zqb {b : Bool} {P Q : Prop} (h1 : b = true → P) (h2 : b = false → Q) : if b then P else Q := by cases b with
  | true => exact h1 rfl
  | false => exact h2 rfl
theorem zqbd {b : Bool} {P Q : Prop} (h : b = true) (hp : P) : if b = true then P else Q := by rw [if_pos h]; exact hp
theorem zqbt {b : Bool} {P Q : Prop} (h : b = false) (hp : Q) : if b = true then P else Q := by rw [if_neg (by rw [h]; decide)]; exact hp
theorem zqav {b : Bool} {P Q : Prop} (h : b = true) (hp : P) : (b = true → P) ∧ (b = false → Q) := ⟨fun _ => hp, fun q => by rw [h] at q; cases q⟩
theorem zqba {b : Bool} {P Q : Prop} (h : b = false) (hp : Q) : (b = true → P) ∧ (b = false → Q) := ⟨fun q => (by rw [h] at q; cases q), fun _ => hp⟩
end
theorem ValidF.mono {X : Cx} {k k' : Nat} {x : Str} {T : Contract} (hk : k ≤ k') (h : ValidF X k x T) : ValidF X k' x T := by
  obtain ⟨f, h1, h2, h3⟩ := h
  refine ⟨f, h1, h2, fun vs σ K hT A s ρ vals Q E ar => h3 vs σ K hT A s ρ vals Q E ?_⟩
  exact { ar with
    handled := fun q => ar.handled (by omega)
    depth := by have := ar.depth; omega
    units := by have := ar.units; omega }
end Mine

set_option Elab.async false
set_option autoImplicit false
set_option linter.unusedVariables false
namespace Mine
open PySem PySem.Spec PySem.Calls PyProof.Rows
section
variable {X : Cx} {k : Nat} {env : Env} {sc : Kinds} {m : Loc} {σ : Store} {p q : Pos} {src : V}
theorem src_ref {l : Nat} {xs : List V} (h : itemsAt σ l = some xs) (k : Nat) : srcNext σ (.ref l) k = some xs[k]? := by
  unfold srcNext; dsimp only; rw [h]; rfl
theorem src_tup {xs : List PyData} (k : Nat) : srcNext σ (.d (.tuple xs)) k = some (xs.map V.d)[k]? := by
  unfold srcNext; dsimp only; rw [List.getElem?_map]
theorem src_rng {n : Nat} (k : Nat) : srcNext σ (.rng 0 n) k = some ((List.range n).map fun (i : Nat) => vInt i)[k]? := by
  unfold srcNext; dsimp only
  rw [List.getElem?_map]
  by_cases h : k < n
  · rw [if_pos (by omega), List.getElem?_range h]; simp [vInt]
  · rw [if_neg (by omega), List.getElem?_eq_none (by simp; omega)]; rfl
theorem comp_src {α : Type} {K : OutE → Prop} {names : List (Str × NameKind)} {ifs : List Expr} {elt : Expr} {x : Str} (xs : List α) (enc : α → V) (g : α → Option V) (hs : ∀ k, srcNext σ src k = some (xs.map enc)[k]?) (hlen : xs.length ≤ 1000000)
    (hb : ∀ v ∈ xs, ∀ (env' : Env) (Y : V → Store → Prop) (N : Store → Prop), (∀ w, g v = some w → Y w σ) → (g v = none → N σ) →
      SIfs X k env' (kindsOf names) ifs (upd (compLoc names m) x (enc v)) σ fun b σ => if b then SE X k env' (kindsOf names) (eval elt env') (upd (compLoc names m) x (enc v)) σ (noExn fun w σ => Y w σ) else N σ)
    (hK : K (.val (.ref σ.length) (σ ++ [.lst (xs.filterMap g)]))) :
    ∃ (N : Nat) (I : Nat → List V → Store → Prop), N ≤ 1000000 ∧ I 0 [] σ ∧
          (∀ j acc σ, j < N → I j acc σ → ∃ v, srcNext σ src j = some (some v) ∧ acc.length ≤ j ∧ ∀ env',
            SIfs X k env' (kindsOf names) ifs (upd (compLoc names m) x v) σ fun b σ => if b then SE X k env' (kindsOf names) (eval elt env') (upd (compLoc names m) x v) σ (noExn fun w σ => I (j + 1) (acc ++ [w]) σ) else I (j + 1) acc σ) ∧
          (∀ acc σ, I N acc σ → srcNext σ src N = some none ∧ K (.val (.ref σ.length) (σ ++ [.lst acc]))) := by
  refine ⟨xs.length, fun k acc σ' => σ' = σ ∧ acc = (xs.take k).filterMap g, hlen, ⟨rfl, rfl⟩, ?_, ?_⟩
  · rintro k acc _ hk ⟨rfl, rfl⟩
    refine ⟨enc xs[k], by rw [hs, List.getElem?_map, List.getElem?_eq_getElem hk]; rfl, ?_, fun env' => ?_⟩
    · refine Nat.le_trans (List.length_filterMap_le ..) ?_
      rw [List.length_take]; exact Nat.min_le_left ..
    · have e : (xs.take (k + 1)).filterMap g = (xs.take k).filterMap g ++ (g xs[k]).toList := by
        rw [List.take_succ_eq_append_getElem hk, List.filterMap_append]
        cases h : g xs[k] <;> simp [List.filterMap_cons, h]
      refine hb _ (List.getElem_mem hk) env' (fun w σ'' => σ'' = _ ∧ _ = _) (fun σ'' => σ'' = _ ∧ _ = _) ?_ ?_
      · intro w h; refine ⟨rfl, ?_⟩; rw [e, h]; rfl
      · intro h; refine ⟨rfl, ?_⟩; rw [e, h]; simp
  · rintro acc _ ⟨rfl, rfl⟩
    rw [hs, List.getElem?_eq_none (by simp), List.take_length]
    exact ⟨rfl, hK⟩
theorem for_src {α : Type} {K : OutS → Prop} {body : List Stmt} {x : Str} (xs : List α) (enc : α → V) (I : Nat → Loc → Store → Prop) (h0 : I 0 m σ)
    (hs : ∀ k m σ', I k m σ' → srcNext σ' src k = some (xs.map enc)[k]?)
    (hb : ∀ j (h : j < xs.length) m σ, I j m σ → SS X k env sc (execs body env) (upd m x (enc xs[j])) σ (loopN K (I (j + 1))))
    (hK : ∀ m σ, I xs.length m σ → K (.next m σ)) :
    ∃ (N : Nat) (I : Nat → Loc → Store → Prop), I 0 m σ ∧
          (∀ j m σ, j < N → I j m σ → ∃ v, srcNext σ src j = some (some v) ∧ SS X k env sc (execs body env) (upd m x v) σ (loopN K (I (j + 1)))) ∧
          (∀ m σ, I N m σ → srcNext σ src N = some none ∧ K (.next m σ)) := by
  refine ⟨xs.length, I, h0, ?_, ?_⟩
  · intro k m σ hk hI
    exact ⟨enc xs[k], by rw [hs k m σ hI, List.getElem?_map, List.getElem?_eq_getElem hk]; rfl, hb k hk m σ hI⟩
  · intro m σ hI
    exact ⟨by rw [hs _ m σ hI, List.getElem?_eq_none (by simp)], hK m σ hI⟩
theorem zip_src {α β : Type} {K : OutS → Prop} {body : List Stmt} {a b : Str} {i j : Nat} (xs : List α) (ys : List β) (f : α → V) (g : β → V) (I : Nat → Loc → Store → Prop) (hi : itemsAt σ i = some (xs.map f)) (hj : itemsAt σ j = some (ys.map g)) (h0 : I 0 m σ)
    (hs : ∀ k m σ', I k m σ' → itemsAt σ' i = some (xs.map f) ∧ itemsAt σ' j = some (ys.map g))
    (hb : ∀ l (h1 : l < xs.length) (h2 : l < ys.length) m σ, I l m σ → ∀ bd, SS (X.hide bd) k env sc (execs body env) (upd (upd m a (f xs[l])) b (g ys[l])) σ (loopS K (I (l + 1))))
    (hK : ∀ m σ, I (min xs.length ys.length) m σ → K (.next m σ)) :
    ∃ i' j' xs' ys', [V.ref i, V.ref j] = [.ref i', .ref j'] ∧ itemsAt σ i' = some xs' ∧ itemsAt σ j' = some ys' ∧ ∃ (I : Nat → Loc → Store → Prop), I 0 m σ ∧
            (∀ l m σ, l < min xs'.length ys'.length → I l m σ → ∃ x y, xs'[l]? = some x ∧ ys'[l]? = some y ∧ itemsAt σ i' = some xs' ∧ itemsAt σ j' = some ys' ∧ ∀ bd, SS (X.hide bd) k env sc (execs body env) (upd (upd m a x) b y) σ (loopS K (I (l + 1)))) ∧
            (∀ m σ, I (min xs'.length ys'.length) m σ → (itemsAt σ i' = some xs' ∧ itemsAt σ j' = some ys') ∧ K (.next m σ)) := by
  refine ⟨i, j, xs.map f, ys.map g, rfl, hi, hj, I, h0, fun l m σ hl hI => ?_, fun m σ hI => ?_⟩
  · rw [List.length_map, List.length_map] at hl
    have h1 : l < xs.length := Nat.lt_of_lt_of_le hl (Nat.min_le_left ..)
    have h2 : l < ys.length := Nat.lt_of_lt_of_le hl (Nat.min_le_right ..)
    exact ⟨f xs[l], g ys[l], by rw [List.getElem?_map, List.getElem?_eq_getElem h1]; rfl, by rw [List.getElem?_map, List.getElem?_eq_getElem h2]; rfl, (hs l m σ hI).1, (hs l m σ hI).2, hb l h1 h2 m σ hI⟩
  · rw [List.length_map, List.length_map] at hI
    exact ⟨hs _ m σ hI, hK m σ hI⟩
theorem while_src {t : Expr} {body : List Stmt} {K : OutS → Prop} (I : Nat → Loc → Store → Prop) (N : Nat) (h0 : I N m σ)
    (hb : ∀ N m σ, I N m σ → SV X k env sc t m σ (fun _ => False) fun c σ => (c = true → SS X k env sc (execs body env) m σ (loopN K fun m σ => ∃ N', N' < N ∧ I N' m σ)) ∧ (c = false → K (.next m σ))) :
    SS X k env sc (exec (.While t body [] p) env) m σ K := zqab I ⟨N, h0⟩ hb
end
theorem filterMap_if {α β : Type} (P : α → Bool) (f : α → β) : ∀ l : List α, l.filterMap (fun a => if P a then some (f a) else none) = (l.filter P).map f
  | [] => rfl
  | a :: r => by
    rw [List.filterMap_cons, List.filter_cons]
    cases h : P a
    · simp only [Bool.false_eq_true, if_false]; exact filterMap_if P f r
    · simp only [if_true, List.map_cons]; rw [filterMap_if P f r]
theorem filterMap_some {α β : Type} (f : α → β) (l : List α) : l.filterMap (fun a => some (f a)) = l.map f := by
  induction l with
  | nil => rfl
  | cons a r ih => rw [List.filterMap_cons]; simp only; rw [ih]; rfl
section
variable {σ : Store}
theorem itemsAt_new {xs : List V} : itemsAt (σ ++ [.lst xs]) σ.length = some xs := by
  unfold itemsAt; simp [Cell.list?]
theorem set_new {c d : Cell} : (σ ++ [c]).set σ.length d = σ ++ [d] := by simp
theorem get_new {c : Cell} : (σ ++ [c])[σ.length]? = some c := by simp
noncomputable def Grown (σ τ : Store) : Prop := ∃ r, τ = σ ++ r
theorem Grown.refl : Grown σ σ := ⟨[], by simp⟩
theorem Grown.snoc {τ : Store} {c : Cell} (h : Grown σ τ) : Grown σ (τ ++ [c]) := by
  obtain ⟨r, rfl⟩ := h
  exact ⟨r ++ [c], by simp⟩
theorem ret_data {K : OutE → Prop} {d : PyData} {τ : Store} (g : Grown σ τ) (h : K (.val (.d d) σ)) : retK σ K (.ret (.d d) τ) := by
  obtain ⟨r, rfl⟩ := g
  exact ⟨_, _, _, .pure, h⟩
theorem ret_none {K : OutE → Prop} {τ : Store} {m : Loc} (g : Grown σ τ) (h : K (.val (.d .none) σ)) : retK σ K (.next m τ) := by
  obtain ⟨r, rfl⟩ := g
  exact ⟨_, _, _, .pure, h⟩
theorem ret_exn {K : OutE → Prop} {c : Str} {τ : Store} {m : Loc} (g : Grown σ τ) (h : K (.exn c σ)) : retK σ K (.exn c m τ) := by
  obtain ⟨r, rfl⟩ := g
  exact ⟨_, _, .pure, h⟩
theorem ret_list {K : OutE → Prop} {xs : List V} {τ : Store} {j : Nat} (g : Grown σ τ) (hj : σ.length ≤ j) (hx : τ[j]? = some (.lst xs)) (hf : ∀ v ∈ xs, ∃ x, v = .d x) (h : K (.val (.ref σ.length) (σ ++ [.lst xs]))) : retK σ K (.ret (.ref j) τ) := by
  obtain ⟨r, rfl⟩ := g
  obtain ⟨i, rfl⟩ := Nat.exists_eq_add_of_le hj
  rw [List.getElem?_append_right (by omega), Nat.add_sub_cancel_left] at hx
  exact ⟨_, _, _, .newList hx hf, h⟩
theorem Grown.trans {τ υ : Store} (h : Grown σ τ) (g : Grown τ υ) : Grown σ υ := by
  obtain ⟨r, rfl⟩ := h
  obtain ⟨t, rfl⟩ := g
  exact ⟨r ++ t, by simp⟩
theorem Grown.items {τ : Store} {i : Nat} {xs : List V} (h : Grown σ τ) (e : itemsAt σ i = some xs) : itemsAt τ i = some xs := by
  obtain ⟨r, rfl⟩ := h
  unfold itemsAt at e ⊢
  cases q : σ[i]? with
  | none => rw [q] at e; cases e
  | some a =>
    rw [List.getElem?_append_left (List.getElem?_eq_some_iff.mp q).1, q]; rw [q] at e; exact e
theorem upd_self {m : Loc} {x : Str} {v : V} (h : m x = some v) : upd m x v = m := by
  funext y
  unfold upd
  split
  · rename_i e; rw [e, h]
  · rfl
section
variable {X : Cx} {k : Nat} {env : Env} {sc : Kinds} {b : List Stmt} {m : Loc} {K : OutS → Prop} {R : Loc → Store → Prop}
theorem if_joinI {c : Bool} (x : Str) {a v₁ : Int} (hm : m x = some (.d (.int a))) (h1 : c = true → ∀ R : Loc → Store → Prop, R (upd m x (.d (.int v₁))) σ → SS X k env sc (execs b env) m σ (loopS K R)) (hR : R (upd m x (.d (.int (if c then v₁ else a)))) σ) :
    (c = true → SS X k env sc (execs b env) m σ (loopS K R)) ∧ (c = false → SS X k env sc (execs [] env) m σ (loopS K R)) := by
  cases c with
  | true => exact ⟨fun h => h1 h R hR, fun h => by cases h⟩
  | false =>
    refine ⟨fun h => (by cases h), fun _ => ?_⟩
    refine zqh (show R m σ from ?_)
    rw [if_neg (by decide), upd_self hm] at hR
    exact hR
theorem if_joinS {c : Bool} (x : Str) {a v₁ : Str} (hm : m x = some (.d (.str a))) (h1 : c = true → ∀ R : Loc → Store → Prop, R (upd m x (.d (.str v₁))) σ → SS X k env sc (execs b env) m σ (loopS K R)) (hR : R (upd m x (.d (.str (if c then v₁ else a)))) σ) :
    (c = true → SS X k env sc (execs b env) m σ (loopS K R)) ∧ (c = false → SS X k env sc (execs [] env) m σ (loopS K R)) := by
  cases c with
  | true => exact ⟨fun h => h1 h R hR, fun h => by cases h⟩
  | false =>
    refine ⟨fun h => (by cases h), fun _ => ?_⟩
    refine zqh (show R m σ from ?_)
    rw [if_neg (by decide), upd_self hm] at hR
    exact hR
theorem if_joinG {c : Bool} (x : Str) {a v₁ : Int} (hm : m x = some (.d (.int a))) (h1 : c = true → ∀ R : Loc → Store → Prop, (∀ τ, Grown σ τ → R (upd m x (.d (.int v₁))) τ) → SS X k env sc (execs b env) m σ (loopS K R)) (hR : ∀ τ, Grown σ τ → R (upd m x (.d (.int (if c then v₁ else a)))) τ) :
    (c = true → SS X k env sc (execs b env) m σ (loopS K R)) ∧ (c = false → SS X k env sc (execs [] env) m σ (loopS K R)) := by
  cases c with
  | true => exact ⟨fun h => h1 h R hR, fun h => by cases h⟩
  | false =>
    refine ⟨fun h => (by cases h), fun _ => ?_⟩
    refine zqh (show R m σ from ?_)
    have := hR σ .refl
    rw [if_neg (by decide), upd_self hm] at this
    exact this
end
theorem slice_nat {α : Type} (xs : List α) (a b : Nat) : sliceV xs (some (a : Int)) (some ((a + b : Nat) : Int)) = (xs.drop a).take b := by
  have ha : clipAt xs.length (a : Int) = min a xs.length := by unfold clipAt; omega
  have hb : clipAt xs.length ((a + b : Nat) : Int) = min (a + b) xs.length := by unfold clipAt; omega
  unfold sliceV
  simp only [Option.elim_some, ha, hb]
  by_cases h : a ≤ xs.length
  · rw [Nat.min_eq_left h]
    by_cases h2 : a + b ≤ xs.length
    · rw [Nat.min_eq_left h2, Nat.add_sub_cancel_left]
    · rw [Nat.min_eq_right (by omega), List.take_of_length_le (by simp), List.take_of_length_le (by simp; omega)]
  · rw [List.drop_of_length_le (i := min a xs.length) (by omega), List.drop_of_length_le (by omega)]
    simp
theorem dataOf_data {i n : Nat} {ds : List PyData} (h : itemsAt σ i = some (ds.map V.d)) : dataOf σ (n + 1) (.ref i) = some (.list ds) := by
  unfold dataOf
  rw [h]
  show ((ds.map V.d).mapM (dataOf σ n)).map _ = _
  have : (ds.map V.d).mapM (dataOf σ n) = some ds := by
    clear h
    induction ds with
    | nil => rfl
    | cons d r ih =>
      rw [List.map_cons, List.mapM_cons, ih]
      unfold dataOf
      rfl
  rw [this]; rfl
end
end Mine

set_option Elab.async false
set_option autoImplicit false
set_option linter.unusedVariables false
namespace Mine
open PySem PySem.Spec PySem.Calls PyProof.Rows PySem.W
noncomputable def goalT : Contract := fun vs σ K => ∃ (i : Nat) (ns : List Int), vs = [.ref i] ∧ itemsAt σ i = some (ns.map vInt) ∧ ns.length ≤ 63 ∧ K (.val (.d (.bool true)) σ)
theorem has_of_well {X : Cx} {P : Params} {n : Nat} {ρ : Nat → Addr} {h : Heap} : ∀ {ns : List Int} {vs : List Value}, WellAll P h vs (ns.map WData.int) → HasAll X n ρ h (ns.map vInt) vs
  | [], _, w => by cases w; exact .nil
  | i :: r, _, w => by
    cases w with
    | cons h1 h2 =>
      cases h1
      exact .cons (.ofInt ..) (has_of_well h2)
theorem ofPys_ints : ∀ ns : List Int, ofPys (ns.map PyData.int) = ns.map WData.int
  | [] => by simp [ofPys]
  | i :: r => by simp [ofPys, ofPy, ofPys_ints r]
theorem law_end {X : Cx} {k : Nat} {fa l : Addr} {ns : List Int} {s : Shared} {P : Params} {Q E : Value → Shared → Prop} (hv : ValidF X k ("law" : Str) goalT) (hk : k < 400) (hX : ∀ b, ¬ X.bad b) (hmg : X.mg ("law" : Str) = some (.ref fa)) (hB : X.B = s.heap)
    (hw : Well P s.heap (.ref l) (ofPy (.list (ns.map PyData.int)))) (hn : ¬ ((63 : Nat) : Int) < (ns.length : Int)) (hQ : ∀ h' tk, (∀ b o, s.heap.get? b = some o → h'.get? b = some o) → Q (.bool true) { s with heap := h', toks := tk }) :
    wpAny (model X.prog X.w) callerA (call (.ref fa) [.ref l]) Q E s := by
  obtain ⟨f, h1, _, h3⟩ := hv
  have hf : f = .ref fa := by
    unfold Cx.val at h1
    rw [hmg] at h1
    exact (Option.some.inj h1).symm
  subst hf
  have hw' : Well P s.heap (.ref l) (.list (ns.map WData.int)) := by
    have e : ofPy (.list (ns.map PyData.int)) = .list (ns.map WData.int) := by simp only [ofPy, ofPys_ints]
    rw [← e]; exact hw
  cases hw' with
  | @list _ vs _ ho hall =>
    have hH : HasAll X 1 (fun _ => l) s.heap (ns.map vInt) vs := has_of_well hall
    refine h3 [.ref 0] [.rol (ns.map vInt)] (fun r => ∃ σ', r = .val (.d (.bool true)) σ') ⟨0, ns, rfl, rfl, by omega, _, rfl⟩ callerA s (fun _ => l) [.ref l] Q E ?_ ?_ ?_ ?_ ?_
    · exact ⟨fun _ => rfl, by show 301 + k < 1000; omega, by show 4 + 20 * k + 200 < 9900; omega, [], rfl, fun e he => by cases he⟩
    · refine ⟨fun b o e => by rw [← hB]; exact e, fun i c hc => ?_, fun i c hc ho' => ?_, fun i j hi hj _ => ?_, fun b q => (hX b q).elim⟩
      · cases i with
        | zero => cases hc; exact ⟨_, vs, ho, ⟨_, rfl⟩, hH⟩
        | succ i => simp at hc
      · cases i with
        | zero => cases hc; cases ho'
        | succ i => simp at hc
      · simp at hi hj; omega
    · exact .cons (.ref (by simp)) .nil
    · rintro v σ' ρ' a h' tk ⟨τ, e⟩ R g hv
      cases e
      have : a = .bool true := by cases hv.d_inv; rfl
      subst this
      exact hQ h' tk fun b o e => R.base b o (by rw [hB]; exact e)
    · rintro c σ' ρ' e h' tk ⟨τ, q⟩
      cases q
end Mine

set_option Elab.async false
set_option autoImplicit false
set_option linter.unusedVariables false
namespace Mine
open PySem PySem.Spec PySem.Calls PyProof.Rows
structure Wish where
  buy : Bool
  lim : Int
  amt : Int
noncomputable def Wish.side (w : Wish) : Str := if w.buy then ("buy" : Str) else ("sell" : Str)
noncomputable def Wish.v (w : Wish) : V := .d (.tuple [.str w.side, .int w.lim, .int w.amt])
theorem side_ok (w : Wish) : PyData.strOk w.side = true := by
  unfold Wish.side
  split <;> decide +kernel
theorem buy_beq (w : Wish) : (w.side == ("buy" : Str)) = w.buy := by
  obtain ⟨b, l, a⟩ := w
  cases b
  · exact (by decide +kernel : (("sell" : Str) == ("buy" : Str)) = false)
  · exact (by decide +kernel : (("buy" : Str) == ("buy" : Str)) = true)
theorem sell_beq (w : Wish) : (w.side == ("sell" : Str)) = !w.buy := by
  obtain ⟨b, l, a⟩ := w
  cases b
  · exact (by decide +kernel : (("sell" : Str) == ("sell" : Str)) = true)
  · exact (by decide +kernel : (("buy" : Str) == ("sell" : Str)) = false)
noncomputable def cellAt (ns : List Int) (k : Nat) : Int := ns.getD k 0
noncomputable def cell_atT : Contract := fun vs σ K => ∃ i ns, ∃ k : Nat, vs = [.ref i, .d (.int (k : Int))] ∧ itemsAt σ i = some (ns.map vInt) ∧ ns.length ≤ 1000000 ∧ K (.val (.d (.int (cellAt ns k))) σ)
theorem getD_vInt {ns : List Int} {k : Nat} (h : k < ns.length) : (ns.map vInt)[((k : Int)).toNat]? = some (.d (.int (ns.getD k 0))) := by
  rw [Int.toNat_natCast, List.getElem?_map, List.getElem?_eq_getElem h, List.getD_eq_getElem?_getD, List.getElem?_eq_getElem h]; rfl
theorem isi_int {σ : Store} {i : Int} {t : Str} {b : Bool} (h : isiName "int" t = some b) : isiW σ (.d (.int i)) t = some b := h
noncomputable def wholeT : Contract := fun vs σ K => ∃ i, vs = [.d (.int i)] ∧ K (.val (.d (.bool true)) σ)
noncomputable def farF (c : Int) : Int := c * 48271 % 2147483647
noncomputable def limF (c : Int) : Int := if decide (farF c % 7 = 2) then [0, 1, 999999999, 1000000000].getD (farF c / 7 % 4).toNat 0 else if decide (farF c % 7 = 1) then c * 69621 % 2147483629 % 1000000001 else 20 + farF c / 7 % 9
noncomputable def amtF (c : Int) : Int := if decide (farF c / 63 % 10 = 2) then 1000000 else if decide (farF c / 63 % 5 = 1) then 1 + c * 40692 % 2147483399 % 1000000 else 1 + farF c / 63 % 6
noncomputable def wishF (c : Int) : Wish := ⟨!decide (c % 2 = 1), limF c, amtF c⟩
theorem wishF_v (c : Int) : .d (.tuple [.str (if decide (c % 2 = 1) then ("sell" : Str) else ("buy" : Str)), .int (limF c), .int (amtF c)]) = (wishF c).v := by
  unfold Wish.v wishF Wish.side
  dsimp only
  cases decide (c % 2 = 1) <;> rfl
noncomputable def wish_byT : Contract := fun vs σ K => ∃ c, vs = [.d (.int c)] ∧ K (.val (wishF c).v σ)
theorem pick_int (L : List Int) {k : Int} (h : 0 ≤ k ∧ k < L.length) : (L.map vInt)[k.toNat]? = some (.d (.int (L.getD k.toNat 0))) := by
  obtain ⟨n, rfl⟩ := Int.eq_ofNat_of_zero_le h.1
  exact getD_vInt (by omega)
noncomputable def extraF (ns : List Int) : List Wish := if cellAt ns 0 % 8 = 5 then (List.range (20 + cellAt ns 1 % 30).toNat).map fun k => wishF (cellAt ns 1 + 8191 * (k : Nat)) else []
noncomputable def manyF (ns : List Int) (few : Nat) : Nat := if 63 < ns.length then 150 else few
noncomputable def wishesF (ns : List Int) (first few : Nat) : List Wish := ((ns.drop first).take (manyF ns few)).map wishF ++ extraF ns
noncomputable def wishes_byT : Contract := fun vs σ K => ∃ i ns, ∃ first few : Nat, vs = [.ref i, .d (.int (first : Int)), .d (.int (few : Int))] ∧ itemsAt σ i = some (ns.map vInt) ∧ ns.length ≤ 900000 ∧ K (.val (.ref σ.length) (σ ++ [.lst ((wishesF ns first few).map Wish.v)]))
theorem v_data {ws : List Wish} : ∀ v ∈ ws.map Wish.v, ∃ x, v = .d x := by
  intro v hv
  obtain ⟨w, _, rfl⟩ := List.mem_map.mp hv
  exact ⟨_, rfl⟩
theorem eqv_ints : ∀ a b : List Int, PyData.eqvAll (a.map .int) (b.map .int) = decide (a = b)
  | [], [] => by simp [PyData.eqvAll]
  | [], _ :: _ => by simp [PyData.eqvAll]
  | _ :: _, [] => by simp [PyData.eqvAll]
  | x :: a, y :: b => by
    simp only [List.map_cons, PyData.eqvAll, eqv_ints a b, PyData.eqv, List.cons.injEq, Bool.decide_and]
    rfl
noncomputable def Wish.d (w : Wish) : PyData := .tuple [.str w.side, .int w.lim, .int w.amt]
theorem Wish.eqv_refl (w : Wish) : PyData.eqv w.d w.d = true := by simp [Wish.d, PyData.eqv, PyData.eqvAll]
theorem eqv_wishes : ∀ ws : List Wish, PyData.eqvAll (ws.map Wish.d) (ws.map Wish.d) = true
  | [] => by simp [PyData.eqvAll]
  | w :: r => by simp only [List.map_cons, PyData.eqvAll, Wish.eqv_refl, eqv_wishes r, Bool.and_self]
theorem map_v (ws : List Wish) : ws.map Wish.v = (ws.map Wish.d).map V.d := by rw [List.map_map]; rfl
theorem canLay_all (l : List PyData) (h : ∀ d ∈ l, PyData.canLay0 d = true) : PyData.canLayAll0 l = true := by
  induction l with
  | nil => simp [PyData.canLayAll0]
  | cons d r ih => simp only [PyData.canLayAll0, h d List.mem_cons_self, ih fun x hx => h x (List.mem_cons_of_mem _ hx), Bool.and_self]
theorem depth_all (n : Nat) (l : List PyData) (h : ∀ d ∈ l, d.depth ≤ n) : PyData.depthAll l ≤ n := by
  induction l with
  | nil => simp [PyData.depthAll]
  | cons d r ih => 
    simp only [PyData.depthAll]
    exact Nat.max_le.mpr ⟨h d List.mem_cons_self, ih fun x hx => h x (List.mem_cons_of_mem _ hx)⟩
theorem shaped_list (l : List PyData) (h1 : ∀ d ∈ l, PyData.canLay0 d = true) (h2 : ∀ d ∈ l, d.depth ≤ 40) : SeqAt.shaped (.list l) = true := by
  unfold SeqAt.shaped
  rw [Bool.and_eq_true, decide_eq_true_eq]
  refine ⟨by simpa [PyData.canLay0] using canLay_all l h1, ?_⟩
  have := depth_all 40 l h2
  simp only [PyData.depth]
  omega
theorem shaped_ints (a : List Int) : SeqAt.shaped (.list (a.map .int)) = true := by
  refine shaped_list _ (fun d hd => ?_) (fun d hd => ?_)
  all_goals (obtain ⟨i, _, rfl⟩ := List.mem_map.mp hd)
  · rfl
  · simp [PyData.depth]
theorem shaped_wishes (ws : List Wish) : SeqAt.shaped (.list (ws.map Wish.d)) = true := by
  refine shaped_list _ (fun d hd => ?_) (fun d hd => ?_)
  all_goals (obtain ⟨w, _, rfl⟩ := List.mem_map.mp hd)
  · simp [Wish.d, PyData.canLay0, PyData.canLayAll0, side_ok]
  · simp [Wish.d, PyData.depth, PyData.depthAll]
noncomputable def Wish.ok (w : Wish) : Prop := 0 ≤ w.lim ∧ w.lim ≤ 1000000000 ∧ 1 ≤ w.amt ∧ w.amt ≤ 1000000
theorem wishF_ok (c : Int) : (wishF c).ok := by
  have h4 : ∀ k : Int, 0 ≤ k ∧ k < 4 → 0 ≤ ([0, 1, 999999999, 1000000000] : List Int).getD k.toNat 0 ∧ ([0, 1, 999999999, 1000000000] : List Int).getD k.toNat 0 ≤ 1000000000 := by
    intro k hk
    have : k = 0 ∨ k = 1 ∨ k = 2 ∨ k = 3 := by omega
    rcases this with rfl | rfl | rfl | rfl <;> decide
  have hl : 0 ≤ limF c ∧ limF c ≤ 1000000000 := by
    unfold limF
    split
    · exact h4 _ (by omega)
    · split <;> omega
  have ha : 1 ≤ amtF c ∧ amtF c ≤ 1000000 := by
    unfold amtF
    split
    · omega
    · split <;> omega
  exact ⟨hl.1, hl.2, ha.1, ha.2⟩
theorem extraF_ok {ns : List Int} : ∀ w ∈ extraF ns, w.ok := by
  intro w hw
  unfold extraF at hw
  split at hw
  · obtain ⟨k, _, rfl⟩ := List.mem_map.mp hw; exact wishF_ok _
  · cases hw
theorem wishesF_ok {ns : List Int} {first few : Nat} : ∀ w ∈ wishesF ns first few, w.ok := by
  intro w hw
  unfold wishesF at hw
  rcases List.mem_append.mp hw with hw | hw
  · obtain ⟨c, _, rfl⟩ := List.mem_map.mp hw; exact wishF_ok _
  · exact extraF_ok w hw
theorem slice_to {α : Type} (xs : List α) (b : Nat) : sliceV xs none (some (b : Int)) = xs.take b := by
  have hb : clipAt xs.length (b : Int) = min b xs.length := by unfold clipAt; omega
  unfold sliceV
  simp only [Option.elim_some, Option.elim_none, hb, List.drop_zero, Nat.sub_zero]
  by_cases h : b ≤ xs.length
  · rw [Nat.min_eq_left h]
  · rw [Nat.min_eq_right (by omega), List.take_of_length_le (Nat.le_refl _), List.take_of_length_le (by omega)]
end Mine

set_option Elab.async false
set_option autoImplicit false
set_option linter.unusedVariables false
namespace Mine
open PySem PySem.Spec PySem.Calls PyProof.Rows
noncomputable def numW (σ : Store) (v : V) : Option Bool := (isiW σ v ("int" : Str)).bind fun b => (isiW σ v ("bool" : Str)).map fun c => b && !c
theorem numW_inv {σ : Store} {v : V} {r : Bool} (h : numW σ v = some r) : ∃ b c, isiW σ v ("int" : Str) = some b ∧ isiW σ v ("bool" : Str) = some c ∧ r = (b && !c) := by
  obtain ⟨b, h1, h2⟩ := Option.bind_eq_some_iff.mp h
  obtain ⟨c, h3, h4⟩ := Option.map_eq_some_iff.mp h2
  exact ⟨b, c, h1, h3, h4.symm⟩
theorem numW_of {σ : Store} {v : V} {b c : Bool} (h1 : isiW σ v ("int" : Str) = some b) (h2 : isiW σ v ("bool" : Str) = some c) : numW σ v = some (b && !c) := by
  unfold numW; rw [h1, h2]; rfl
theorem num_kind {σ : Store} {x : PyData} {k : String} {b c : Bool} (hk : kindName x = some k) (h1 : isiName k ("int" : Str) = some b) (h2 : isiName k ("bool" : Str) = some c) : numW σ (.d x) = some (b && !c) :=
  numW_of (by show (kindName x).bind _ = _; rw [hk]; exact h1) (by show (kindName x).bind _ = _; rw [hk]; exact h2)
theorem num_int {σ : Store} {i : Int} : numW σ (.d (.int i)) = some true := num_kind (k := "int") (b := true) (c := false) rfl (by decide +kernel) (by decide +kernel)
theorem num_bool {σ : Store} {i : Bool} : numW σ (.d (.bool i)) = some false := num_kind (k := "bool") (b := true) (c := true) rfl (by decide +kernel) (by decide +kernel)
theorem num_none {σ : Store} : numW σ (.d .none) = some false := num_kind (k := "NoneType") (b := false) (c := false) rfl (by decide +kernel) (by decide +kernel)
theorem num_str {σ : Store} {x : Str} : numW σ (.d (.str x)) = some false := num_kind (k := "str") (b := false) (c := false) rfl (by decide +kernel) (by decide +kernel)
noncomputable def cellName : Cell → String
  | .dct => "dict"
  | _ => "list"
theorem isi_cell {σ : Store} {i : Nat} {c : Cell} {t : Str} {b : Bool} (h : σ[i]? = some c) (hb : isiName (cellName c) t = some b) : isiW σ (.ref i) t = some b := by
  show (σ[i]?).bind _ = _; rw [h]; exact hb
theorem num_dct {σ : Store} {i : Nat} (h : σ[i]? = some .dct) : numW σ (.ref i) = some false := numW_of (b := false) (c := false) (isi_cell h (by decide +kernel)) (isi_cell h (by decide +kernel))
theorem num_lst {σ : Store} {i : Nat} {xs : List V} (h : σ[i]? = some (.lst xs)) : numW σ (.ref i) = some false :=
  numW_of (b := false) (c := false) (isi_cell h (by show isiName "list" _ = _; decide +kernel)) (isi_cell h (by show isiName "list" _ = _; decide +kernel))
noncomputable def numT : Contract := fun vs σ K => ∃ v r, vs = [v] ∧ numW σ v = some r ∧ K (.val (.d (.bool r)) σ)
noncomputable def badNum (σ : Store) (lo hi : Int) (v : V) : Prop := numW σ v = some false ∨ ∃ p : Int, v = .d (.int p) ∧ (p < lo ∨ hi < p)
noncomputable def sixNames : List (Str × Str) := [("BadWish", "wish "), ("BadPrice", "price "), ("BadPieces", "pieces "), ("Uneven", "uneven "), ("NoSuch", "none "), ("Unread", "unread ")]
noncomputable def namesT : Contract := fun vs σ K => ∃ p ∈ sixNames, vs = [.exc p.1] ∧ K (.val (.d (.str p.2)) σ)
end Mine

set_option Elab.async false
set_option autoImplicit false
set_option linter.unusedVariables false
namespace Mine
open PySem PySem.Spec PySem.Calls PyProof.Rows
theorem isi_d {σ : Store} {x : PyData} {k : String} {t : Str} {b : Bool} (hk : kindName x = some k) (h : isiName k t = some b) : isiW σ (.d x) t = some b := by
  show (kindName x).bind _ = _; rw [hk]; exact h
theorem isi_tup {σ : Store} {x : List PyData} : isiW σ (.d (.tuple x)) ("tuple" : Str) = some true := isi_d (k := "tuple") rfl (by decide +kernel)
end Mine

set_option Elab.async false
set_option autoImplicit false
set_option linter.unusedVariables false
namespace Mine
open PySem PySem.Spec PySem.Calls PyProof.Rows
noncomputable def fitsF (ws : List Wish) (ps : List Int) : Prop := ps.length = ws.length ∧ ∀ (k : Nat) (w : Wish) (n : Int), ws[k]? = some w → ps[k]? = some n → 0 ≤ n ∧ n ≤ w.amt
noncomputable def needOk (ws : List Wish) (xs : List V) (p : Nat) : Prop := ∀ k, k < p → ∃ (w : Wish) (n : Int), ws[k]? = some w ∧ xs[k]? = some (vInt n) ∧ 0 ≤ n ∧ n ≤ w.amt
inductive badPieces (σ : Store) (ws : List Wish) (xs : List V) : Prop
  | len : xs.length ≠ ws.length → badPieces σ ws xs
  | at (p : Nat) {w : Wish} {v : V} : xs.length = ws.length → needOk ws xs p → ws[p]? = some w → xs[p]? = some v → badNum σ 0 w.amt v → badPieces σ ws xs
noncomputable def need_piecesT : Contract := fun vs σ K => ∃ i ws j xs, vs = [.ref i, .ref j] ∧ itemsAt σ i = some (ws.map Wish.v) ∧ ws.length ≤ 1000000 ∧ itemsAt σ j = some xs ∧ xs.length ≤ 1000000 ∧
  ((badPieces σ ws xs ∧ K (.exn ("BadPieces" : Str) σ)) ∨ (∃ ps, xs = ps.map vInt ∧ fitsF ws ps ∧ K (.val (.d .none) σ)))
theorem isi_items {σ : Store} {j : Nat} {xs : List V} {t : Str} {b : Bool} (h : itemsAt σ j = some xs) (hb : isiName "list" t = some b) : isiW σ (.ref j) t = some b := by
  unfold itemsAt at h
  obtain ⟨c, hc, e⟩ := Option.bind_eq_some_iff.mp h
  cases c with
  | dct => cases e
  | lst ys => exact isi_cell hc hb
  | rol ys => exact isi_cell hc hb
theorem isi_list {σ : Store} {j : Nat} {xs : List V} (h : itemsAt σ j = some xs) : isiW σ (.ref j) ("list" : Str) = some true := isi_items h (by decide +kernel)
theorem fits_need {ws : List Wish} {ps : List Int} (h : fitsF ws ps) : needOk ws (ps.map vInt) ws.length := fun k hk => by
  have h2 : k < ps.length := by rw [h.1]; exact hk
  have q := h.2 k ws[k] ps[k] (List.getElem?_eq_getElem hk) (List.getElem?_eq_getElem h2)
  exact ⟨ws[k], ps[k], List.getElem?_eq_getElem hk, by rw [List.getElem?_map, List.getElem?_eq_getElem h2]; rfl, q.1, q.2⟩
theorem num_grown {σ τ : Store} {v : V} {r : Bool} (g : Grown σ τ) (h : numW σ v = some r) : numW τ v = some r := by
  obtain ⟨t, rfl⟩ := g
  cases v with
  | ref i =>
    obtain ⟨b, c, h1, h2, rfl⟩ := numW_inv h
    obtain ⟨x, hx, h1⟩ := Option.bind_eq_some_iff.mp h1
    obtain ⟨y, hy, h2⟩ := Option.bind_eq_some_iff.mp h2
    have hlt := (List.getElem?_eq_some_iff.mp hx).1
    refine numW_of ?_ ?_
    · show ((σ ++ t)[i]?).bind _ = _
      rw [List.getElem?_append_left hlt, hx]; exact h1
    · show ((σ ++ t)[i]?).bind _ = _
      rw [List.getElem?_append_left hlt, hy]; exact h2
  | d x => exact h
  | exc c => exact h
  | glob c => exact h
  | rng a b => exact h
  | zip a b => exact h
theorem badNum.grown {σ τ : Store} {lo hi : Int} {v : V} (g : Grown σ τ) (h : badNum σ lo hi v) : badNum τ lo hi v := h.imp (num_grown g) id
noncomputable def pieces_byT : Contract := fun vs σ K => ∃ (i : Nat) (ws : List Wish) (cell : Int), vs = [.ref i, .d (.int cell)] ∧ itemsAt σ i = some (ws.map Wish.v) ∧ ws.length ≤ 1000000 ∧ (∀ w ∈ ws, w.ok) ∧
  ∀ ps : List Int, fitsF ws ps → K (.val (.ref σ.length) (σ ++ [.lst (ps.map vInt)]))
end Mine

set_option Elab.async false
set_option autoImplicit false
set_option linter.unusedVariables false
namespace Mine
open PySem PySem.Spec PySem.Calls PyProof.Rows
noncomputable def wAt (ws : List Wish) (k : Nat) : Wish := ws.getD k ⟨true, 0, 0⟩
theorem wAt_eq {ws : List Wish} {k : Nat} (h : k < ws.length) : wAt ws k = ws[k] := by
  unfold wAt; rw [List.getD_eq_getElem?_getD, List.getElem?_eq_getElem h]; rfl
section
variable {ws : List Wish} {price : Int} {b : Bool} {r : List Nat}
end
section
variable {ws : List Wish} {p : Int}
theorem amt_pos (ho : ∀ w ∈ ws, w.ok) {k : Nat} (hk : k < ws.length) : 1 ≤ (wAt ws k).amt := by
  rw [wAt_eq hk]; exact (ho _ (List.getElem_mem hk)).2.2.1
noncomputable def sideF (ws : List Wish) (ps : List Int) (b : Bool) : Int := (((List.range ws.length).filter fun k => (wAt ws k).buy == b).map fun k => ps.getD k 0).sum
theorem sum_zero {α : Type} (f : α → Int) (P Q : α → Bool) : ∀ l : List α, (∀ a ∈ l, P a = true → Q a = false → f a = 0) → (∀ a ∈ l, Q a = true → P a = true) → ((l.filter P).map f).sum = ((l.filter Q).map f).sum
  | [], _, _ => rfl
  | a :: l, h, h' => by
    have ih := sum_zero f P Q l (fun x hx => h x (List.mem_cons_of_mem _ hx)) fun x hx => h' x (List.mem_cons_of_mem _ hx)
    have h1 := h a List.mem_cons_self
    have h2 := h' a List.mem_cons_self
    rw [List.filter_cons, List.filter_cons]
    cases hp : P a <;> cases hq : Q a <;> simp only [if_true, Bool.false_eq_true, if_false, List.map_cons, List.sum_cons, ih]
    · have := h2 hq; rw [hp] at this; exact absurd this Bool.false_ne_true
    · rw [h1 hp hq]; omega
end
noncomputable def take1 (l : List Int) (k : Nat) (n : Int) : List Int := l.set k (l.getD k 0 - n)
noncomputable def dealStep (l : List Int) (d : Nat × Nat × Int) : List Int := take1 (take1 l d.1 d.2.2) d.2.1 d.2.2
theorem take1_len {l : List Int} {k : Nat} {n : Int} : (take1 l k n).length = l.length := by simp [take1]
theorem dealStep_len {l : List Int} {d : Nat × Nat × Int} : (dealStep l d).length = l.length := by simp [dealStep, take1_len]
theorem take1_get {l : List Int} {k i : Nat} {n : Int} (h : k < l.length) : (take1 l k n).getD i 0 = if i = k then l.getD k 0 - n else l.getD i 0 := by
  unfold take1
  rw [List.getD_eq_getElem?_getD, List.getElem?_set]
  by_cases e : k = i
  · subst e; rw [if_pos rfl, if_pos h, if_pos rfl]; rfl
  · rw [if_neg e, if_neg fun q => e q.symm, List.getD_eq_getElem?_getD]
theorem dealStep_get {l : List Int} {b s i : Nat} {n : Int} (hb : b < l.length) (hs : s < l.length) (hne : b ≠ s) : (dealStep l (b, s, n)).getD i 0 = if i = b ∨ i = s then l.getD i 0 - n else l.getD i 0 := by
  unfold dealStep
  dsimp only
  rw [take1_get (by rw [take1_len]; exact hs), take1_get hb, take1_get hb]
  by_cases h1 : i = s
  · subst h1; rw [if_pos rfl, if_neg (fun q => hne q.symm), if_pos (Or.inr rfl)]
  · by_cases h2 : i = b
    · subst h2; rw [if_neg h1, if_pos rfl, if_pos (Or.inl rfl)]
    · rw [if_neg h1, if_neg h2, if_neg (by omega)]
structure DealOk (ws : List Wish) (d : Nat × Nat × Int) : Prop where
  b : d.1 < ws.length
  s : d.2.1 < ws.length
  buy : (wAt ws d.1).buy = true
  sell : (wAt ws d.2.1).buy = false
  pos : 1 ≤ d.2.2
noncomputable def Rise (d e : Nat × Nat × Int) : Prop := d.1 ≤ e.1 ∧ d.2.1 ≤ e.2.1 ∧ (d.1 < e.1 ∨ d.2.1 < e.2.1)
noncomputable def Rising (l : List (Nat × Nat × Int)) : Prop := ∀ k d e, l[k]? = some d → l[k + 1]? = some e → Rise d e
theorem Rising.snoc {l : List (Nat × Nat × Int)} {e : Nat × Nat × Int} (h : Rising l) (he : ∀ d, l.getLast? = some d → Rise d e) : Rising (l ++ [e]) := by
  intro k d e' h1 h2
  have hlt : k + 1 < (l ++ [e]).length := (List.getElem?_eq_some_iff.mp h2).1
  simp only [List.length_append, List.length_singleton] at hlt
  rw [List.getElem?_append_left (by omega)] at h1
  by_cases q : k + 1 < l.length
  · rw [List.getElem?_append_left q] at h2; exact h k d e' h1 h2
  · rw [List.getElem?_append_right (by omega), show k + 1 - l.length = 0 by omega] at h2
    cases h2
    refine he d ?_
    rw [List.getLast?_eq_getElem?, show l.length - 1 = k by omega]; exact h1
structure PInv (ws : List Wish) (ps rest : List Int) (Bs Ss : List Nat) (found : List (Nat × Nat × Int)) : Prop where
  len : rest.length = ws.length
  walk : rest = found.foldl dealStep ps
  bs : ∀ b ∈ Bs, b < ws.length ∧ (wAt ws b).buy = true ∧ 0 ≤ rest.getD b 0
  ss : ∀ s ∈ Ss, s < ws.length ∧ (wAt ws s).buy = false ∧ 0 < rest.getD s 0
  bup : Bs.Pairwise (· < ·)
  sup : Ss.Pairwise (· < ·)
  zero : ∀ i, i < ws.length → i ∉ Bs → i ∉ Ss → rest.getD i 0 = 0
  sum : (Bs.map fun b => rest.getD b 0).sum = (Ss.map fun s => rest.getD s 0).sum
  good : ∀ d ∈ found, DealOk ws d
  rise : Rising found
  last : ∀ d, found.getLast? = some d → (∀ b ∈ Bs, d.1 ≤ b) ∧ (∀ s ∈ Ss, d.2.1 ≤ s) ∧ ((∀ b ∈ Bs, rest.getD b 0 = 0 ∨ d.1 < b) ∨ ∀ s ∈ Ss, d.2.1 < s)
section
variable {ws : List Wish} {ps rest : List Int} {Bs Ss : List Nat} {found : List (Nat × Nat × Int)} {b : Nat}
theorem PInv.next (h : PInv ws ps rest (b :: Bs) Ss found) (h0 : rest.getD b 0 ≤ 0) : PInv ws ps rest Bs Ss found := by
  have hb := h.bs b List.mem_cons_self
  have e : rest.getD b 0 = 0 := by omega
  refine { h with bs := fun c hc => h.bs c (List.mem_cons_of_mem _ hc), bup := (List.pairwise_cons.mp h.bup).2, zero := fun i hi h1 h2 => ?_, sum := ?_, last := fun d hd => ?_ }
  · by_cases q : i = b
    · rw [q]; exact e
    · exact h.zero i hi (fun w => (List.mem_cons.mp w).elim q h1) h2
  · have := h.sum
    simp only [List.map_cons, List.sum_cons, e] at this
    omega
  · obtain ⟨h1, h2, h3⟩ := h.last d hd
    exact ⟨fun c hc => h1 c (List.mem_cons_of_mem _ hc), h2, h3.imp (fun w c hc => w c (List.mem_cons_of_mem _ hc)) id⟩
theorem sum_nonneg_of {f : Nat → Int} : ∀ l : List Nat, (∀ i ∈ l, 0 ≤ f i) → 0 ≤ (l.map f).sum
  | [], _ => by simp
  | a :: l, h => by
    have h1 := h a List.mem_cons_self
    have h2 := sum_nonneg_of l fun i hi => h i (List.mem_cons_of_mem _ hi)
    simp only [List.map_cons, List.sum_cons]; omega
theorem PInv.more (h : PInv ws ps rest (b :: Bs) Ss found) (h0 : 0 < rest.getD b 0) : ∃ s Ss', Ss = s :: Ss' := by
  cases Ss with
  | nil =>
    have := h.sum
    have h2 := sum_nonneg_of (f := fun b => rest.getD b 0) Bs fun c hc => (h.bs c (List.mem_cons_of_mem _ hc)).2.2
    simp only [List.map_cons, List.sum_cons, List.map_nil, List.sum_nil] at this
    omega
  | cons s r => exact ⟨s, r, rfl⟩
theorem PInv.deal {s : Nat} (h : PInv ws ps rest (b :: Bs) (s :: Ss) found) (h0 : 0 < rest.getD b 0) {n : Int} (hn : n = min (rest.getD b 0) (rest.getD s 0)) :
    PInv ws ps (dealStep rest (b, s, n)) (b :: Bs) (if (dealStep rest (b, s, n)).getD s 0 = 0 then Ss else s :: Ss) (found ++ [(b, s, n)]) ∧ (dealStep rest (b, s, n)).getD b 0 = rest.getD b 0 - n ∧ (dealStep rest (b, s, n)).getD s 0 = rest.getD s 0 - n := by
  have hb := h.bs b List.mem_cons_self
  have hs := h.ss s List.mem_cons_self
  have hne : b ≠ s := fun q => by have := hb.2.1; rw [q, hs.2.1] at this; cases this
  have hbl : b < rest.length := by rw [h.len]; exact hb.1
  have hsl : s < rest.length := by rw [h.len]; exact hs.1
  have hg := fun i => dealStep_get (i := i) (n := n) hbl hsl hne
  have gb : (dealStep rest (b, s, n)).getD b 0 = rest.getD b 0 - n := by rw [hg, if_pos (Or.inl rfl)]
  have gs : (dealStep rest (b, s, n)).getD s 0 = rest.getD s 0 - n := by rw [hg, if_pos (Or.inr rfl)]
  have go : ∀ i, i ≠ b → i ≠ s → (dealStep rest (b, s, n)).getD i 0 = rest.getD i 0 := fun i h1 h2 => by rw [hg, if_neg (by omega)]
  have hbs : ∀ c ∈ Bs, c ≠ b ∧ c ≠ s := fun c hc => ⟨fun q => by have := (List.pairwise_cons.mp h.bup).1 c hc; omega, fun q => by
    have := (h.bs c (List.mem_cons_of_mem _ hc)).2.1; rw [q, hs.2.1] at this; (exact nomatch this)⟩
  have hss : ∀ c ∈ Ss, c ≠ b ∧ c ≠ s := fun c hc => ⟨fun q => by
    have := (h.ss c (List.mem_cons_of_mem _ hc)).2.1; rw [q, hb.2.1] at this; (exact nomatch this), fun q => by have := (List.pairwise_cons.mp h.sup).1 c hc; omega⟩
  have hin : ∀ c, c ∈ (if (dealStep rest (b, s, n)).getD s 0 = 0 then Ss else s :: Ss) → c ∈ s :: Ss := fun c hc => by
    split at hc
    · exact List.mem_cons_of_mem _ hc
    · exact hc
  have sumB : (Bs.map fun c => (dealStep rest (b, s, n)).getD c 0).sum = (Bs.map fun c => rest.getD c 0).sum := by
    rw [List.map_congr_left fun c hc => go c (hbs c hc).1 (hbs c hc).2]
  have sumS : (Ss.map fun c => (dealStep rest (b, s, n)).getD c 0).sum = (Ss.map fun c => rest.getD c 0).sum := by
    rw [List.map_congr_left fun c hc => go c (hss c hc).1 (hss c hc).2]
  refine ⟨⟨dealStep_len.trans h.len, by rw [List.foldl_append, ← h.walk]; rfl, fun c hc => ?_, fun c hc => ?_, h.bup, ?_, fun i hi h1 h2 => ?_, ?_, fun d hd => ?_, h.rise.snoc fun d hd => ?_, fun d hd => ?_⟩, gb, gs⟩
  · rcases List.mem_cons.mp hc with rfl | hc'
    · exact ⟨hb.1, hb.2.1, by rw [gb]; omega⟩
    · have := h.bs c hc
      rw [go c (hbs c hc').1 (hbs c hc').2]; exact this
  · rcases List.mem_cons.mp (hin c hc) with rfl | hc'
    · refine ⟨hs.1, hs.2.1, ?_⟩
      split at hc
      · exact absurd rfl (hss c hc).2
      · omega
    · have := h.ss c (List.mem_cons_of_mem _ hc')
      rw [go c (hss c hc').1 (hss c hc').2]; exact this
  · split
    · exact (List.pairwise_cons.mp h.sup).2
    · exact h.sup
  · by_cases q : i = s
    · subst q
      split at h2
      · assumption
      · exact absurd List.mem_cons_self h2
    · have hib : i ≠ b := fun w => h1 (by rw [w]; exact List.mem_cons_self)
      rw [go i hib q]
      refine h.zero i hi h1 fun w => h2 ?_
      have w' : i ∈ Ss := (List.mem_cons.mp w).resolve_left q
      split
      · exact w'
      · exact List.mem_cons_of_mem _ w'
  · have e := h.sum
    simp only [List.map_cons, List.sum_cons] at e ⊢
    rw [sumB, gb]
    split
    · rename_i q
      rw [sumS]
      rw [gs] at q
      omega
    · simp only [List.map_cons, List.sum_cons]
      rw [sumS, gs]
      omega
  · rcases List.mem_append.mp hd with hd | hd
    · exact h.good d hd
    · rw [List.mem_singleton.mp hd]
      exact ⟨hb.1, hs.1, hb.2.1, hs.2.1, by show 1 ≤ n; have := hs.2.2; omega⟩
  · obtain ⟨h1, h2, h3⟩ := h.last d hd
    refine ⟨h1 b List.mem_cons_self, h2 s List.mem_cons_self, ?_⟩
    rcases h3 with h3 | h3
    · left
      rcases h3 b List.mem_cons_self with q | q
      · omega
      · exact q
    · exact .inr (h3 s List.mem_cons_self)
  · rw [List.getLast?_concat] at hd
    cases hd
    refine ⟨fun c hc => ?_, fun c hc => ?_, ?_⟩
    · rcases List.mem_cons.mp hc with rfl | hc
      · exact Nat.le_refl _
      · exact Nat.le_of_lt ((List.pairwise_cons.mp h.bup).1 c hc)
    · rcases List.mem_cons.mp (hin c hc) with rfl | hc
      · exact Nat.le_refl _
      · exact Nat.le_of_lt ((List.pairwise_cons.mp h.sup).1 c hc)
    · by_cases q : (dealStep rest (b, s, n)).getD s 0 = 0
      · right
        intro c hc
        rw [if_pos q] at hc
        exact (List.pairwise_cons.mp h.sup).1 c hc
      · left
        intro c hc
        rcases List.mem_cons.mp hc with rfl | hc
        · left; omega
        · exact .inr ((List.pairwise_cons.mp h.bup).1 c hc)
theorem PInv.done (h : PInv ws ps rest [] Ss found) : rest = List.replicate ws.length 0 := by
  have hS : Ss = [] := by
    cases Ss with
    | nil => rfl
    | cons s r =>
      have e := h.sum
      have h1 := (h.ss s List.mem_cons_self).2.2
      have h2 := sum_nonneg_of (f := fun s => rest.getD s 0) r fun c hc => by have := (h.ss c (List.mem_cons_of_mem _ hc)).2.2; omega
      simp only [List.map_cons, List.sum_cons, List.map_nil, List.sum_nil] at e
      omega
  subst hS
  apply List.ext_getElem?
  intro k
  by_cases hk : k < ws.length
  · have := h.zero k hk (by simp) (by simp)
    have hk2 : k < rest.length := by rw [h.len]; exact hk
    rw [List.getD_eq_getElem?_getD, List.getElem?_eq_getElem hk2] at this
    rw [List.getElem?_replicate, if_pos hk, List.getElem?_eq_getElem hk2]
    simpa using this
  · rw [List.getElem?_eq_none (by rw [h.len]; omega), List.getElem?_eq_none (by simp; omega)]
noncomputable def busyF (ws : List Wish) (ps : List Int) (b : Bool) : List Nat := (List.range ws.length).filter fun k => ((wAt ws k).buy == b) && decide (0 < ps.getD k 0)
theorem PInv.start (hl : ps.length = ws.length) (hf : ∀ k, k < ws.length → 0 ≤ ps.getD k 0) (he : sideF ws ps true = sideF ws ps false) : PInv ws ps ps (busyF ws ps true) (busyF ws ps false) [] := by
  have hm : ∀ c k, k ∈ busyF ws ps c ↔ k < ws.length ∧ (wAt ws k).buy = c ∧ 0 < ps.getD k 0 := fun c k => by
    unfold busyF
    rw [List.mem_filter, List.mem_range, Bool.and_eq_true, beq_iff_eq, decide_eq_true_eq]
  have hsum : ∀ c, ((busyF ws ps c).map fun k => ps.getD k 0).sum = sideF ws ps c := fun c => by
    unfold busyF sideF
    refine (sum_zero _ _ _ _ (fun k hk h1 h2 => ?_) fun k _ h => (Bool.and_eq_true _ _ ▸ h).1).symm
    rw [h1, Bool.true_and] at h2
    have := of_decide_eq_false h2
    have := hf k (List.mem_range.mp hk)
    omega
  refine ⟨hl, rfl, fun c hc => ?_, fun c hc => ?_, List.Pairwise.filter _ List.pairwise_lt_range, List.Pairwise.filter _ List.pairwise_lt_range, fun i hi h1 h2 => ?_, ?_, (fun d hd => by cases hd), (fun k d e h1 => by simp at h1), (fun d hd => by simp at hd)⟩
  · have := (hm _ _).mp hc; exact ⟨this.1, this.2.1, by omega⟩
  · have := (hm _ _).mp hc; exact ⟨this.1, this.2.1, this.2.2⟩
  · have := hf i hi
    rw [hm] at h1 h2
    cases hb : (wAt ws i).buy
    · have : ¬ 0 < ps.getD i 0 := fun q => h2 ⟨hi, hb, q⟩
      omega
    · have : ¬ 0 < ps.getD i 0 := fun q => h1 ⟨hi, hb, q⟩
      omega
  · rw [hsum, hsum, he]
end
theorem sum_set {P : Nat → Bool} {l : List Int} {k : Nat} {x : Int} (hk : k < l.length) : ∀ r : List Nat, r.Nodup → k ∈ r →
    ((r.filter P).map fun j => (l.set k x).getD j 0).sum = ((r.filter P).map fun j => l.getD j 0).sum + (if P k then x - l.getD k 0 else 0)
  | [], _, h => by cases h
  | a :: r, hn, h => by
    have hn' := List.nodup_cons.mp hn
    have get : ∀ j, (l.set k x).getD j 0 = if j = k then x else l.getD j 0 := fun j => by
      rw [List.getD_eq_getElem?_getD, List.getElem?_set]
      by_cases e : k = j
      · subst e; rw [if_pos rfl, if_pos hk, if_pos rfl]; rfl
      · rw [if_neg e, if_neg fun q => e q.symm, List.getD_eq_getElem?_getD]
    rw [List.filter_cons]
    by_cases e : a = k
    · subst e
      have same : ((r.filter P).map fun j => (l.set a x).getD j 0) = (r.filter P).map fun j => l.getD j 0 := List.map_congr_left fun j hj => by
        rw [get, if_neg fun q => hn'.1 (by rw [← q]; exact (List.mem_filter.mp hj).1)]
      have ga : (l.set a x).getD a 0 = x := by rw [get, if_pos rfl]
      cases P a <;> simp only [if_true, Bool.false_eq_true, if_false, List.map_cons, List.sum_cons, same, ga]
      all_goals omega
    · have hk' : k ∈ r := (List.mem_cons.mp h).resolve_left fun q => e q.symm
      have ih := sum_set (P := P) (x := x) hk r hn'.2 hk'
      have ga : (l.set k x).getD a 0 = l.getD a 0 := by rw [get, if_neg e]
      cases P a <;> simp only [if_true, Bool.false_eq_true, if_false, List.map_cons, List.sum_cons, ih, ga]
      omega
theorem side_set {ws : List Wish} {l : List Int} {k : Nat} {x : Int} {b : Bool} (h1 : k < ws.length) (h2 : k < l.length) : sideF ws (l.set k x) b = sideF ws l b + (if (wAt ws k).buy == b then x - l.getD k 0 else 0) :=
  sum_set h2 _ List.nodup_range (List.mem_range.mpr h1)
theorem side_nonneg {ws : List Wish} {l : List Int} {b : Bool} (h : ∀ k, k < ws.length → 0 ≤ l.getD k 0) : 0 ≤ sideF ws l b :=
  sum_nonneg_of _ fun k hk => h k (List.mem_range.mp (List.mem_filter.mp hk).1)
structure EInv (ws : List Wish) (ps qs : List Int) (over : Int) (k : Nat) : Prop where
  len : qs.length = k
  fit : ∀ j, j < k → 0 ≤ qs.getD j 0 ∧ qs.getD j 0 ≤ (wAt ws j).amt
  ov : over = sideF ws (qs ++ ps.drop k) true - sideF ws (qs ++ ps.drop k) false
  pos : 0 < over → ∀ j, j < k → (wAt ws j).buy = true → qs.getD j 0 = 0
  neg : over < 0 → ∀ j, j < k → (wAt ws j).buy = false → qs.getD j 0 = 0
section
variable {ws : List Wish} {ps qs : List Int} {over : Int} {k : Nat}
theorem EInv.snoc (h : EInv ws ps qs over k) (hk : k < ws.length) (hl : ps.length = ws.length) (hf : 0 ≤ ps.getD k 0 ∧ ps.getD k 0 ≤ (wAt ws k).amt) {less over' : Int}
    (hc : ((wAt ws k).buy = true ∧ 0 < over ∧ less = min (ps.getD k 0) over ∧ over' = over - less) ∨ ((wAt ws k).buy = false ∧ over < 0 ∧ less = min (ps.getD k 0) (-over) ∧ over' = over + less) ∨
      (((wAt ws k).buy = true → over ≤ 0) ∧ ((wAt ws k).buy = false → 0 ≤ over) ∧ less = 0 ∧ over' = over)) : EInv ws ps (qs ++ [ps.getD k 0 - less]) over' (k + 1) := by
  have hkl : k < ps.length := by rw [hl]; exact hk
  have e : (qs ++ [ps.getD k 0 - less]) ++ ps.drop (k + 1) = (qs ++ ps.drop k).set k (ps.getD k 0 - less) := by
    rw [List.set_append_right _ _ (by rw [h.len]; exact Nat.le_refl _), h.len, Nat.sub_self, List.drop_eq_getElem_cons hkl, List.set_cons_zero]
    simp
  have gk : (qs ++ ps.drop k).getD k 0 = ps.getD k 0 := by
    rw [List.getD_eq_getElem?_getD, List.getElem?_append_right (by rw [h.len]; exact Nat.le_refl _), h.len, Nat.sub_self, List.getElem?_drop, Nat.add_zero, List.getD_eq_getElem?_getD]
  have hlen : k < (qs ++ ps.drop k).length := by simp [h.len]; omega
  have gold : ∀ j, j < k → (qs ++ [ps.getD k 0 - less]).getD j 0 = qs.getD j 0 := fun j hj => by
    rw [List.getD_eq_getElem?_getD, List.getElem?_append_left (by rw [h.len]; exact hj), List.getD_eq_getElem?_getD]
  have gnew : (qs ++ [ps.getD k 0 - less]).getD k 0 = ps.getD k 0 - less := by
    rw [List.getD_eq_getElem?_getD, List.getElem?_append_right (by rw [h.len]; exact Nat.le_refl _), h.len, Nat.sub_self]; rfl
  have ho := h.ov
  refine ⟨by simp [h.len], fun j hj => ?_, ?_, fun hp j hj hb => ?_, fun hp j hj hb => ?_⟩
  · by_cases q : j < k
    · rw [gold j q]; exact h.fit j q
    · rw [show j = k by omega, gnew]
      rcases hc with hc | hc | hc <;> omega
  · rw [e, side_set hk hlen, side_set hk hlen, gk]
    rcases hc with ⟨hb, hc⟩ | ⟨hb, hc⟩ | hc
    · rw [hb]; simp only [beq_self_eq_true, if_true, show (true == false) = false from rfl, Bool.false_eq_true, if_false]; omega
    · rw [hb]; simp only [beq_self_eq_true, if_true, show (false == true) = false from rfl, Bool.false_eq_true, if_false]; omega
    · rw [hc.2.2.1]; split <;> split <;> omega
  · by_cases q : j < k
    · rw [gold j q]
      refine h.pos ?_ j q hb
      rcases hc with hc | hc | hc <;> omega
    · have : j = k := by omega
      subst this
      rw [gnew]
      rcases hc with hc | ⟨hc, _⟩ | hc
      · omega
      · rw [hb] at hc; cases hc
      · have := hc.1 hb; omega
  · by_cases q : j < k
    · rw [gold j q]
      refine h.neg ?_ j q hb
      rcases hc with hc | hc | hc <;> omega
    · have : j = k := by omega
      subst this
      rw [gnew]
      rcases hc with ⟨hc, _⟩ | hc | hc
      · rw [hb] at hc; cases hc
      · omega
      · have := hc.2.1 hb; omega
theorem EInv.end (h : EInv ws ps qs over ws.length) (hl : ps.length = ws.length) : qs.length = ws.length ∧ sideF ws qs true = sideF ws qs false := by
  have e : qs ++ ps.drop ws.length = qs := by rw [← hl, List.drop_length, List.append_nil]
  have ho := h.ov
  rw [e] at ho
  refine ⟨h.len, ?_⟩
  have n1 := side_nonneg (b := true) fun k hk => (h.fit k hk).1
  have n2 := side_nonneg (b := false) fun k hk => (h.fit k hk).1
  have z : ∀ b, (∀ j, j < ws.length → (wAt ws j).buy = b → qs.getD j 0 = 0) → sideF ws qs b = 0 := fun b hz => by
    have : ∀ r : List Nat, (∀ j ∈ r, qs.getD j 0 = 0) → (r.map fun j => qs.getD j 0).sum = 0 := fun r => by
      induction r with
      | nil => intro _; rfl
      | cons a r ih => intro hr; simp only [List.map_cons, List.sum_cons, hr a List.mem_cons_self, ih fun j hj => hr j (List.mem_cons_of_mem _ hj)]; rfl
    refine this _ fun j hj => ?_
    obtain ⟨h1, h2⟩ := List.mem_filter.mp hj
    exact hz j (List.mem_range.mp h1) (beq_iff_eq.mp h2)
  by_cases c1 : 0 < over
  · have := z true (h.pos c1); omega
  · by_cases c2 : over < 0
    · have := z false (h.neg c2); omega
    · omega
theorem EInv.start (hl : ps.length = ws.length) : EInv ws ps [] (sideF ws ps true - sideF ws ps false) 0 :=
  ⟨rfl, fun j hj => by omega, by simp, fun _ j hj => by omega, fun _ j hj => by omega⟩
end
end Mine

set_option Elab.async false
set_option autoImplicit false
set_option linter.unusedVariables false
namespace Mine
open PySem PySem.Spec PySem.Calls PyProof.Rows
noncomputable def sideS (b : Bool) : Str := if b then ("buy" : Str) else ("sell" : Str)
theorem sideS_ok (b : Bool) : PyData.strOk (sideS b) = true := by cases b <;> decide +kernel
theorem side_beq (w : Wish) (b : Bool) : (w.side == sideS b) = (w.buy == b) := by
  cases b
  · exact (sell_beq w).trans (by cases w.buy <;> rfl)
  · exact (buy_beq w).trans (by cases w.buy <;> rfl)
theorem vAt {ws : List Wish} {k : Nat} (h : k < ws.length) : (ws.map Wish.v)[((k : Nat) : Int).toNat]? = some (wAt ws k).v := by
  rw [Int.toNat_natCast, List.getElem?_map, List.getElem?_eq_getElem h, wAt_eq h]; rfl
theorem iAt {ps : List Int} {k : Nat} (h : k < ps.length) : (ps.map vInt)[((k : Nat) : Int).toNat]? = some (.d (.int (ps.getD k 0))) := by
  rw [Int.toNat_natCast, List.getElem?_map, List.getElem?_eq_getElem h, List.getD_eq_getElem?_getD, List.getElem?_eq_getElem h]; rfl
noncomputable def side_sumT : Contract := fun vs σ K => ∃ (i j : Nat) (ws : List Wish) (ps : List Int) (b : Bool), vs = [.ref i, .ref j, .d (.str (sideS b))] ∧ itemsAt σ i = some (ws.map Wish.v) ∧ ws.length ≤ 1000000 ∧ itemsAt σ j = some (ps.map vInt) ∧ ps.length = ws.length ∧ K (.val (.d (.int (sideF ws ps b))) σ)
noncomputable def lsideT : Contract := side_sumT
theorem side_items {ws : List Wish} {ps : List Int} {b : Bool} : (List.range ws.length).filterMap (fun k => if (wAt ws k).buy == b then some (vInt (ps.getD k 0)) else none) = (((List.range ws.length).filter fun k => (wAt ws k).buy == b).map fun k => ps.getD k 0).map vInt := by
  rw [List.map_map]
  exact filterMap_if (fun k => (wAt ws k).buy == b) (fun k => vInt (ps.getD k 0)) _
noncomputable def evenF (ws : List Wish) (ps : List Int) : Bool := decide (sideF ws ps true = sideF ws ps false)
noncomputable def evenT : Contract := fun vs σ K => ∃ i ws j xs, vs = [.ref i, .ref j] ∧ itemsAt σ i = some (ws.map Wish.v) ∧ ws.length ≤ 1000000 ∧ itemsAt σ j = some xs ∧ xs.length ≤ 1000000 ∧
  ((badPieces σ ws xs ∧ K (.exn ("BadPieces" : Str) σ)) ∨ (∃ ps, xs = ps.map vInt ∧ fitsF ws ps ∧ K (.val (.d (.bool (evenF ws ps))) σ)))
noncomputable def evenedT : Contract := fun vs σ K => ∃ (i j : Nat) (ws : List Wish) (ps : List Int), vs = [.ref i, .ref j] ∧ itemsAt σ i = some (ws.map Wish.v) ∧ ws.length ≤ 900000 ∧ itemsAt σ j = some (ps.map vInt) ∧ fitsF ws ps ∧
  ∀ qs : List Int, fitsF ws qs → sideF ws qs true = sideF ws qs false → K (.val (.ref σ.length) (σ ++ [.lst (qs.map vInt)]))
theorem fits_at {ws : List Wish} {ps : List Int} (h : fitsF ws ps) {k : Nat} (hk : k < ws.length) : 0 ≤ ps.getD k 0 ∧ ps.getD k 0 ≤ (wAt ws k).amt := by
  have h2 : k < ps.length := by rw [h.1]; exact hk
  rw [wAt_eq hk, List.getD_eq_getElem?_getD, List.getElem?_eq_getElem h2]
  exact h.2 k _ _ (List.getElem?_eq_getElem hk) (List.getElem?_eq_getElem h2)
theorem fits_of {ws : List Wish} {ps : List Int} (hl : ps.length = ws.length) (h : ∀ k, k < ws.length → 0 ≤ ps.getD k 0 ∧ ps.getD k 0 ≤ (wAt ws k).amt) : fitsF ws ps := by
  refine ⟨hl, fun k w n h1 h2 => ?_⟩
  have hk := (List.getElem?_eq_some_iff.mp h1).1
  have := h k hk
  rw [wAt_eq hk, List.getD_eq_getElem?_getD, h2] at this
  rw [List.getElem?_eq_getElem hk] at h1
  rw [← Option.some.inj h1]
  exact this
theorem eq_ints {X : Cx} {σ : Store} {i j : Nat} {a b : List Int} {g : Bool → Prop} (h1 : itemsAt σ i = some (a.map vInt)) (h2 : itemsAt σ j = some (b.map vInt)) (h : g (decide (a = b))) : cmpW X .Eq (.ref i) (.ref j) σ g := by
  have e : ∀ (ps : List Int), ps.map vInt = (ps.map PyData.int).map V.d := fun ps => by rw [List.map_map]; rfl
  refine zqk (dataOf_data (by rw [← e]; exact h1)) (dataOf_data (by rw [← e]; exact h2)) (shaped_ints _) (shaped_ints _) ?_
  rw [show PyData.eqv (.list (a.map .int)) (.list (b.map .int)) = decide (a = b) by rw [PyData.eqv, eqv_ints]]
  exact h
theorem map_int (ps : List Int) : ps.map vInt = (ps.map PyData.int).map V.d := by rw [List.map_map]; rfl
theorem shaped_pair (ws : List Wish) (ps : List Int) : SeqAt.shaped (.list [.list (ws.map Wish.d), .list (ps.map .int)]) = true := by
  refine shaped_list _ (fun d hd => ?_) (fun d hd => ?_)
  all_goals (simp only [List.mem_cons, List.not_mem_nil, or_false] at hd; rcases hd with rfl | rfl)
  · exact SeqAt.canLay_of_shaped (shaped_wishes ws)
  · exact SeqAt.canLay_of_shaped (shaped_ints ps)
  · have := depth_all 2 (ws.map Wish.d) (fun d hd => by obtain ⟨w, _, rfl⟩ := List.mem_map.mp hd; simp [Wish.d, PyData.depth, PyData.depthAll])
    simp only [PyData.depth]; omega
  · have := depth_all 2 (ps.map PyData.int) (fun d hd => by obtain ⟨w, _, rfl⟩ := List.mem_map.mp hd; simp [PyData.depth])
    simp only [PyData.depth]; omega
theorem data_pair {σ : Store} {l x y : Nat} {ws : List Wish} {ps : List Int} (q1 : itemsAt σ l = some [.ref x, .ref y]) (q2 : itemsAt σ x = some (ws.map Wish.v)) (q3 : itemsAt σ y = some (ps.map vInt)) : dataOf σ 3 (.ref l) = some (.list [.list (ws.map Wish.d), .list (ps.map .int)]) := by
  have dw : dataOf σ 2 (.ref x) = some (.list (ws.map Wish.d)) := dataOf_data (by rw [← map_v]; exact q2)
  have di : dataOf σ 2 (.ref y) = some (.list (ps.map .int)) := dataOf_data (by rw [← map_int]; exact q3)
  unfold dataOf
  rw [q1]
  simp only [Option.bind_some, List.mapM_cons, List.mapM_nil, dw, di]
  rfl
theorem eq_pair {X : Cx} {σ : Store} {h h' a b a' b' : Nat} {ws : List Wish} {ps : List Int} {g : Bool → Prop} (e1 : itemsAt σ h = some [.ref a, .ref b]) (e2 : itemsAt σ h' = some [.ref a', .ref b'])
    (e3 : itemsAt σ a = some (ws.map Wish.v)) (e4 : itemsAt σ b = some (ps.map vInt)) (e5 : itemsAt σ a' = some (ws.map Wish.v)) (e6 : itemsAt σ b' = some (ps.map vInt)) (hg : g true) : cmpW X .Eq (.ref h) (.ref h') σ g := by
  refine zqk (data_pair e1 e3 e4) (data_pair e2 e5 e6) (shaped_pair ws ps) (shaped_pair ws ps) ?_
  rw [show PyData.eqv (.list [.list (ws.map Wish.d), .list (ps.map .int)]) (.list [.list (ws.map Wish.d), .list (ps.map .int)]) = true by
    simp [PyData.eqv, PyData.eqvAll, eqv_wishes, eqv_ints]]
  exact hg
theorem slice_from {α : Type} (xs : List α) (a : Nat) : sliceV xs (some (a : Int)) none = xs.drop a := by
  have ha : clipAt xs.length (a : Int) = min a xs.length := by unfold clipAt; omega
  unfold sliceV
  simp only [Option.elim_some, Option.elim_none, ha]
  by_cases h : a ≤ xs.length
  · rw [Nat.min_eq_left h, List.take_of_length_le (by simp)]
  · rw [List.drop_of_length_le (i := min a xs.length) (by omega), List.drop_of_length_le (by omega)]; simp
theorem bad_at {σ : Store} {ws : List Wish} {ps : List Int} {p : Nat} {v : V} (hf : fitsF ws ps) (hp : p < ws.length) (hb : badNum σ 0 (wAt ws p).amt v) : badPieces σ ws ((ps.map vInt).take p ++ [v] ++ (ps.map vInt).drop (p + 1)) := by
  have hl : ps.length = ws.length := hf.1
  rw [wAt_eq hp] at hb
  refine .at p (w := ws[p]) (v := v) (by simp; omega) (fun k hk => ?_) (List.getElem?_eq_getElem hp) ?_ hb
  · have hk1 : k < ws.length := by omega
    have hk2 : k < ps.length := by omega
    have q := hf.2 k ws[k] ps[k] (List.getElem?_eq_getElem hk1) (List.getElem?_eq_getElem hk2)
    refine ⟨ws[k], ps[k], List.getElem?_eq_getElem hk1, ?_, q.1, q.2⟩
    rw [List.append_assoc, List.getElem?_append_left (by simp; omega), List.getElem?_take_of_lt hk, List.getElem?_map, List.getElem?_eq_getElem hk2]; rfl
  · rw [List.append_assoc, List.getElem?_append_right (by simp; omega)]
    rw [List.length_take, List.length_map, show p - min p ps.length = 0 by omega]; rfl
theorem if_joinP {X : Cx} {k : Nat} {env : Env} {sc : Kinds} {b b2 : List Stmt} {m : Loc} {σ : Store} {K : OutS → Prop} {R : Loc → Store → Prop} {c : Bool} (P : Loc → Store → Prop)
    (h1 : c = true → ∀ R : Loc → Store → Prop, (∀ m τ, P m τ → R m τ) → SS X k env sc (execs b env) m σ (loopS K R)) (h0 : c = false → ∀ R : Loc → Store → Prop, (∀ m τ, P m τ → R m τ) → SS X k env sc (execs b2 env) m σ (loopS K R)) (hR : ∀ m τ, P m τ → R m τ) :
    (c = true → SS X k env sc (execs b env) m σ (loopS K R)) ∧ (c = false → SS X k env sc (execs b2 env) m σ (loopS K R)) := ⟨fun h => h1 h R hR, fun h => h0 h R hR⟩
end Mine

set_option Elab.async false
set_option autoImplicit false
set_option linter.unusedVariables false
namespace Mine
open PySem PySem.Spec PySem.Calls PyProof.Rows
section
variable {X : Cx} {σ : Store} {K : OutE → Prop}
theorem getItem_two {prog : Program} {w : World} {A : Around} {E : Value → Shared → Prop} {s : Shared} {t sl : Addr} {x y z : Value} {u : Tok} {Q : Value → Shared → Prop} (ht : IsTup s.heap t #[x, y, z]) (hs : s.heap.IsSliceOf sl .none (.int 2 u) .none)
    (h : Q (.ref s.heap.objs.size) { s with heap := s.heap.push { cls := .type "tuple", data := .seq #[x, y] } }) : wpAny (model prog w) A (getItem (.ref t) (.ref sl)) Q E s := by
  obtain ⟨os, hos, hcs, hds⟩ := id hs
  have hTs : s.TypeIs (.ref sl) "slice" := ⟨os, hos, hcs⟩
  unfold getItem
  try with_reducible refine wpAny_holding ?_
  first | refine wpAny_bind (wpAny_pure ?_) | skip
  refine wpAny_bind (wpAny_sequenceKey ht.typeIs (by decide) ?_)
  refine wpAny_bind (wpAny_callSpecial?_slot (name := Str.ofString "__getitem__") ht.typeIs slot_tuple_getitem
    (wpAny_call_entry slot_tuple_getitem ht.typeIs entry_tuple_getitem ?_ (args_tuple_getitem _ _)))
  show wpAny _ _ (Builtin.Tuple.tupleItemsOf (.ref t) >>= _) _ _ s
  refine wpAny_bind (tupleItemsOf_ ht ?_)
  refine wpAny_bind (wpAny_typeOf hTs ?_)
  rw [if_pos (by decide)]
  refine wpAny_bind ?_
  unfold Builtin.Slice.sliceApplied Builtin.Slice.sliceFields
  refine wpAny_bind (wpAny_bind (wpAny_field hos hds (x := .none) rfl (wpAny_bind (wpAny_field hos hds (x := .int 2 u) rfl (wpAny_bind (wpAny_field hos hds (x := .none) rfl (wpAny_pure ?_)))))))
  refine wpAny_bind (slicePart_none ?_)
  show wpAny _ _ (if ((1 : Int) == 0) = true then _ else _) _ _ s
  rw [if_neg (by decide)]
  refine wpAny_bind (slicePart_none (wpAny_bind (slicePart_int (wpAny_bind (wpAny_pure ?_)))))
  refine wpAny_pure ?_
  show wpAny _ _ (if ((0 : Int) == 0 && (1 : Int) == 1 && (2 : Nat) == 3) = true then _ else _) _ _ s
  rw [if_neg (by decide)]
  have hsz : sizeOk (.seq #[x, y]) := by show (2 : Nat) ≤ sizeLine; rw [sizeLine_eq]; omega
  first
    | exact wpAny_bind (m := Builtin.Tuple.tupleExact _) (wpAny_newObj_type (wpAny_pure ⟨_, rfl, wpAny_pure h⟩) hsz)
    | exact wpAny_bind (m := Builtin.Tuple.tupleExact _) (wpAny_newObj_type (wpAny_bind (wpAny_pure (wpAny_pure ⟨_, rfl, wpAny_pure h⟩))) hsz)
    | exact wpAny_bind (wpAny_bind (m := Builtin.Tuple.tupleExact _) (wpAny_newObj_type (wpAny_pure (wpAny_pure ⟨_, rfl, wpAny_pure h⟩)) hsz))
    | exact wpAny_bind (wpAny_bind (m := Builtin.Tuple.tupleExact _) (wpAny_newObj_type (wpAny_pure ⟨_, rfl, wpAny_pure h⟩) hsz))
theorem zqu {a b c : PyData} (h : K (.val (.d (.tuple [a, b])) σ)) : sliceW X (.d (.tuple [a, b, c])) none (some 2) σ K := by
  intro A s ρ value lower upper p va vl vu Q E R ha pl pu ok
  cases pl
  cases pu with | int _ u => ?_
  have hr := ha.d_rdc
  cases hr with
  | @tuple t o vs n _ e hc hd hn hrs =>
    obtain ⟨vl, rfl⟩ : ∃ l : List Value, vs = l.toArray := ⟨vs.toList, by simp⟩
    simp only [List.toList_toArray] at hrs
    cases hrs with | @cons x _ _ _ q1 hrs => ?_
    cases hrs with | @cons y _ _ _ q2 hrs => ?_
    cases hrs with | @cons z _ _ _ q3 hrs => ?_
    cases hrs
    have ht : IsTup s.heap t #[x, y, z] := ⟨_, e, hc, _, hd⟩
    have ht' : IsTup (s.heap.push { cls := .type "slice", data := .fields #[.none, .int 2 u, .none] }) t #[x, y, z] := ht.keeps fun _ _ e => Heap.get?_push_of_some _ e
    refine tail_any (s := { s with heap := s.heap.push { cls := .type "slice", data := .fields #[.none, .int 2 u, .none] } }) ht'.typeIs slot_tuple_getitem.lookup ?_ rfl
    refine getItem_two ht' (Heap.IsSliceOf.new ..) ?_
    have R1 := R.grow1 { cls := .type "slice", data := .fields #[.none, .int 2 u, .none] }
    have R2 := R1.1.grow1 { cls := .type "tuple", data := .seq #[x, y] }
    refine ok _ _ _ _ _ s.toks h R2.1 (R1.2.trans R2.2) (.d (.tuple (Heap.get?_push_size _ rfl) rfl rfl (fun q => ?_) (.cons ?_ (.cons ?_ .nil))))
    · obtain ⟨o, _, _, e, _⟩ := R1.1.bad _ q
      exact Nat.lt_irrefl _ (Heap.lt_size e)
    · exact q1.to (fun _ _ _ q => q) fun b o e _ _ _ => Heap.get?_push_of_some _ (Heap.get?_push_of_some _ e)
    · exact q2.to (fun _ _ _ q => q) fun b o e _ _ _ => Heap.get?_push_of_some _ (Heap.get?_push_of_some _ e)
end
end Mine

set_option Elab.async false
set_option autoImplicit false
set_option linter.unusedVariables false
namespace Mine
open PySem PySem.Spec PySem.Calls PyProof.Rows
noncomputable def cntP (rest : List Int) (Bs Ss : List Nat) (found : List (Nat × Nat × Int)) : Nat := found.length + Ss.length + Bs.countP fun b => decide (rest.getD b 0 ≠ 0)
theorem cnt_next {rest : List Int} {Bs Ss : List Nat} {found : List (Nat × Nat × Int)} {b : Nat} : cntP rest Bs Ss found ≤ cntP rest (b :: Bs) Ss found := by
  unfold cntP
  rw [List.countP_cons]
  omega
theorem cnt_deal {ws : List Wish} {ps rest : List Int} {Bs Ss : List Nat} {found : List (Nat × Nat × Int)} {b s : Nat} (h : PInv ws ps rest (b :: Bs) (s :: Ss) found) (h0 : 0 < rest.getD b 0) {n : Int} (hn : n = min (rest.getD b 0) (rest.getD s 0)) :
    cntP (dealStep rest (b, s, n)) (b :: Bs) (if (dealStep rest (b, s, n)).getD s 0 = 0 then Ss else s :: Ss) (found ++ [(b, s, n)]) ≤ cntP rest (b :: Bs) (s :: Ss) found := by
  obtain ⟨_, gb, gs⟩ := h.deal h0 hn
  have hb := h.bs b List.mem_cons_self
  have hs := h.ss s List.mem_cons_self
  have hne : b ≠ s := fun q => by have := hb.2.1; rw [q, hs.2.1] at this; cases this
  have same : (Bs.countP fun c => decide ((dealStep rest (b, s, n)).getD c 0 ≠ 0)) = Bs.countP fun c => decide (rest.getD c 0 ≠ 0) := by
    refine List.countP_congr fun c hc => ?_
    have hcb : c ≠ b := fun q => by have := (List.pairwise_cons.mp h.bup).1 c hc; omega
    have hcs : c ≠ s := fun q => by have := (h.bs c (List.mem_cons_of_mem _ hc)).2.1; rw [q, hs.2.1] at this; cases this
    rw [dealStep_get (by rw [h.len]; exact hb.1) (by rw [h.len]; exact hs.1) hne, if_neg (by omega)]
  unfold cntP
  rw [List.countP_cons, List.countP_cons, same, decide_eq_true (show rest.getD b 0 ≠ 0 by omega), List.length_append]
  by_cases q : (dealStep rest (b, s, n)).getD s 0 = 0
  · rw [if_pos q]
    simp only [List.length_cons, List.length_nil]
    split <;> simp <;> omega
  · rw [if_neg q, decide_eq_false (show ¬ (dealStep rest (b, s, n)).getD b 0 ≠ 0 by omega)]
    simp
    omega
theorem cnt_start {ws : List Wish} {ps : List Int} {c d : Bool} : cntP ps (busyF ws ps c) (busyF ws ps d) [] ≤ 2 * ws.length := by
  unfold cntP
  have h1 : ∀ c, (busyF ws ps c).length ≤ ws.length := fun c => Nat.le_trans (List.length_filter_le ..) (by simp)
  have h2 := h1 d
  have h3 := Nat.le_trans (List.countP_le_length (p := fun b => decide (ps.getD b 0 ≠ 0)) (l := busyF ws ps c)) (h1 c)
  simp only [List.length_nil]
  omega
noncomputable def dealD (d : Nat × Nat × Int) : PyData := .tuple [.int (d.1 : Nat), .int (d.2.1 : Nat), .int d.2.2]
noncomputable def dealV (d : Nat × Nat × Int) : V := .d (dealD d)
structure Deals (ws : List Wish) (ps : List Int) (found : List (Nat × Nat × Int)) : Prop where
  zero : found.foldl dealStep ps = List.replicate ws.length 0
  good : ∀ d ∈ found, DealOk ws d
  rise : Rising found
  len : found.length ≤ 2 * ws.length
noncomputable def pairsT : Contract := fun vs σ K => ∃ i ws j xs, vs = [.ref i, .ref j] ∧ itemsAt σ i = some (ws.map Wish.v) ∧ ws.length ≤ 400000 ∧ itemsAt σ j = some xs ∧ xs.length ≤ 1000000 ∧
  ((badPieces σ ws xs ∧ K (.exn ("BadPieces" : Str) σ)) ∨ ∃ ps, xs = ps.map vInt ∧ fitsF ws ps ∧
    ((sideF ws ps true ≠ sideF ws ps false ∧ K (.exn ("Uneven" : Str) σ)) ∨ (sideF ws ps true = sideF ws ps false ∧ ∀ found, Deals ws ps found → K (.val (.ref σ.length) (σ ++ [.lst (found.map dealV)])))))
noncomputable def natV (k : Nat) : V := .d (.int (k : Int))
theorem busy_items {ws : List Wish} {ps : List Int} {c : Bool} : (List.range ws.length).filterMap (fun (k : Nat) => if ((wAt ws k).buy == c) && decide (0 < ps.getD k 0) then some (natV k) else none) = (busyF ws ps c).map natV :=
  filterMap_if (fun k => ((wAt ws k).buy == c) && decide (0 < ps.getD k 0)) natV _
theorem src_rngN {σ : Store} {n : Nat} (k : Nat) : srcNext σ (.rng 0 n) k = some ((List.range n).map natV)[k]? := src_rng k
theorem nAt {S : List Nat} {k : Nat} (h : k < S.length) : (S.map natV)[((k : Nat) : Int).toNat]? = some (natV S[k]) := by
  rw [Int.toNat_natCast, List.getElem?_map, List.getElem?_eq_getElem h]; rfl
section
variable {σ : Store} {a b c d x : Cell} {xs ys zs us : List V}
theorem set40 : (σ ++ [a] ++ [b] ++ [c] ++ [d]).set σ.length x = σ ++ [x] ++ [b] ++ [c] ++ [d] := by simp
theorem get40 : (σ ++ [a] ++ [b] ++ [c] ++ [d])[σ.length]? = some a := by simp
theorem get43 : (σ ++ [a] ++ [b] ++ [c] ++ [d])[σ.length + 3]? = some d := by simp
theorem set43 : (σ ++ [a] ++ [b] ++ [c] ++ [d]).set (σ.length + 3) x = σ ++ [a] ++ [b] ++ [c] ++ [x] := by simp
theorem it40 : itemsAt (σ ++ [.lst xs] ++ [b] ++ [c] ++ [d]) σ.length = some xs := by unfold itemsAt; simp [Cell.list?]
theorem it41 : itemsAt (σ ++ [a] ++ [.lst xs] ++ [c] ++ [d]) (σ.length + 1) = some xs := by unfold itemsAt; simp [Cell.list?]
theorem it42 : itemsAt (σ ++ [a] ++ [b] ++ [.lst xs] ++ [d]) (σ.length + 2) = some xs := by unfold itemsAt; simp [Cell.list?]
theorem it43 : itemsAt (σ ++ [a] ++ [b] ++ [c] ++ [.lst xs]) (σ.length + 3) = some xs := by unfold itemsAt; simp [Cell.list?]
end
theorem set_ints {ps : List Int} {k : Nat} {n : Int} : (ps.map vInt).set (((k : Nat) : Int).toNat) (.d (.int n)) = (ps.set k n).map vInt := by
  rw [Int.toNat_natCast, List.map_set]
end Mine

set_option Elab.async false
set_option autoImplicit false
set_option linter.unusedVariables false
set_option linter.unusedSimpArgs false
set_option maxRecDepth 100000
set_option Elab.async false
local macro_rules | `(tactic| walk_at "mine_look") => `(tactic| (first | exact Mine.upd_eq | exact Mine.look_eq | assumption | refine Mine.upd_ne (by decide +kernel) ?_ | refine Mine.look_ne (by decide +kernel) ?_ | refine Mine.comp_free (by decide +kernel) ?_))
local macro_rules | `(tactic| walk_at "mine_step") => `(tactic| (first | (with_reducible (first | refine Mine.zqbe ?_ | refine Mine.zqbh ?_ | refine Mine.zqm ?_ | refine Mine.zqac ?_ | refine Mine.zqag ?_ | refine Mine.zqak ?_ | refine Mine.zqai ?_ | refine Mine.zqq ?_ | refine Mine.zqo ?_ | refine Mine.zqci ?_ | refine Mine.zqbg ?_ | refine Mine.zqh ?_ | refine Mine.zqf ?_ | refine Mine.zqcg ?_ | refine Mine.zqbx ?_ | refine Mine.zqt ?_ | refine Mine.zqv ?_ | refine Mine.zqs ?_ | refine Mine.zqz ?_ | refine Mine.zqat ?_ | refine Mine.zqbr ?_ | refine Mine.zqcj ?_ | refine Mine.zqcf ?_ | refine Mine.zqby ?_ | refine Mine.zqcl ?_ | refine Mine.zqam ?_ | refine Mine.zqcp ?_ | refine Mine.zqbz ?_ | refine Mine.zqbv ?_ | refine Mine.zqe ?_ | refine Mine.zqbo ?_ | refine Mine.zqbb ?_ | refine Mine.zqaw ?_ | refine Mine.zqc ?_ | refine Mine.zqau ?_ | refine Mine.zqbk ?_ | refine Mine.zqbn ?_ | refine Mine.zqad ?_ | refine Mine.zqan ?_ | refine Mine.zqce ?_ | refine Mine.zqbf ?_ | refine Mine.zqar ?_ | refine Mine.zqbs ?_ | refine Mine.zqco ?_ | refine Mine.zqax ?_ | refine Mine.zqca ?_ | refine Mine.zqbp ?_ | refine Mine.zqcq ?_ | refine Mine.zqaq ?_ | refine Mine.zqy ?_ | refine Mine.zqay ?_)) | ((with_reducible (first | apply Mine.zqbq | apply Mine.zqbj | apply Mine.zqaj | apply Mine.zqcb | apply Mine.zqbu | apply Mine.zqah | apply Mine.zqbm | apply Mine.zqcd)); (focus exact rfl)) | ((with_reducible apply Mine.zqr); (focus decide +kernel); (focus exact rfl)) | ((with_reducible apply Mine.zqal); (focus decide +kernel); (focus assumption); (focus exact rfl); (focus decide +kernel)) | ((with_reducible apply Mine.zqao); (focus decide +kernel); (focus assumption); (focus exact rfl)) | ((with_reducible apply Mine.zqaz); (focus assumption); (focus decide +kernel); (focus assumption); (focus assumption)) | ((with_reducible apply Mine.zqbc); (focus assumption); (focus decide +kernel); (focus decide +kernel); (focus assumption); (focus assumption)) | ((with_reducible apply Mine.zqbw); (focus assumption); (focus decide +kernel); (focus decide +kernel); (focus assumption); (focus assumption); (focus decide +kernel); (focus exact rfl)) | ((with_reducible apply Mine.zqap); (focus exact (by assumption : ∀ c D, Mine.famAll.contains c = true → Mine.famAll.contains D = true → Mine.SubOk _ c D) _ _ (by decide +kernel) (by decide +kernel)); (focus decide +kernel)) | ((with_reducible apply Mine.zqck); (focus decide +kernel); (focus (first | exact Or.inl (by decide +kernel) | exact Or.inr rfl))) | ((with_reducible apply Mine.zqcc); (focus decide +kernel)) | ((with_reducible apply Mine.zqae); (focus decide +kernel); (focus ((repeat ((walk_at "mine_look"))); done))) | ((with_reducible apply Mine.zqbl); (focus assumption); (focus decide +kernel); (focus assumption); (focus exact rfl)) | ((with_reducible apply Mine.zqas); (focus exact rfl); (focus exact rfl); (focus exact rfl); (focus decide); (focus assumption)) | ((with_reducible apply Mine.zqn); (focus assumption); (focus exact rfl); (focus decide +kernel)) | ((with_reducible apply Mine.zqcr); (focus assumption); (focus decide +kernel); (focus assumption)) | ((with_reducible apply Mine.zqcm); (focus (first | assumption | decide +kernel)); (focus (first | assumption | decide +kernel))) | ((with_reducible apply Mine.zqaf); (focus decide)) | ((with_reducible apply Mine.zqj); (focus decide)) | ((with_reducible apply Mine.zqch); (focus (first | exact .of_right (by decide) | exact .of_left (by decide)))) | ((with_reducible apply Mine.zqbd); (focus (first | exact rfl | assumption | decide +kernel))) | ((with_reducible apply Mine.zqbt); (focus (first | exact rfl | assumption | decide +kernel))) | ((with_reducible apply Mine.zqav); (focus (first | exact rfl | assumption | decide +kernel))) | ((with_reducible apply Mine.zqba); (focus (first | exact rfl | assumption | decide +kernel))) | ((with_reducible apply Mine.zqcn); (focus decide); (focus exact rfl))))
namespace Mine
open PySem PySem.Spec PySem.Calls PyProof.Rows
def prg : Program := PySem.Challenge.rw_uf040040_09.row.toRowW.1

set_option Elab.async false
set_option autoImplicit false
set_option linter.unusedVariables false
set_option linter.unusedSimpArgs false
set_option maxRecDepth 100000
open PySem PySem.Spec PySem.Calls PyProof.Rows
set_option maxHeartbeats 4000000 in
theorem v_num {fam : List Str} {X : Cx} {k : Nat} (cx : CxOk X) (calm : 100 ≤ k) (zipk : X.val ("zip" : Str) = some (.type "zip")) (h_isi : ValidF X k ("isinstance" : Str) (isiT fam)) (k_int : Known X ("int" : Str)) (k_bool : Known X ("bool" : Str)) {nm : Str} {ps : Arguments} {body : List Stmt} {dl : List Expr} {re : Option Expr} {tp} {sc : Scope} {tc} {q : Str} {pos : Pos}
    (hs : prg.main.body[9]? = some (.FunctionDef nm ps body dl re tp sc tc q pos)) (hf : IsFn X ("is_number" : Str) (ps.args.map (·.arg)) body sc) : ValidF X (k + 1) ("is_number" : Str) numT := by
  cases hs
  have hf : IsFn X ("is_number" : Str) ["thing"] _ _ := hf
  refine valid_fn cx hf (by decide +kernel) ?_
  rintro _ σ K ⟨v, r, rfl, hr, hK⟩
  obtain ⟨b, c, hb, hc, rfl⟩ := numW_inv hr
  refine ⟨rfl, fun env => ?_⟩
  dsimp only
  (repeat walk_at "mine_step")
  refine isi_of hb ?_
  (repeat walk_at "mine_step")
  refine zqb (fun h => ?_) (fun h => ?_)
  · (repeat walk_at "mine_step")
    refine isi_of hc ?_
    (repeat walk_at "mine_step")
    subst h
    exact ret_data .refl hK
  · (repeat walk_at "mine_step")
    subst h
    exact ret_data .refl hK
set_option maxHeartbeats 4000000 in
theorem v_need_pieces {fam : List Str} {X : Cx} {k : Nat} (cx' : ∀ bd : Addr → Prop, CxOk (X.hide bd)) (calm' : ∀ bd : Addr → Prop, 100 ≤ k) (zipk' : ∀ bd : Addr → Prop, (X.hide bd).val ("zip" : Str) = some (.type "zip")) (h_isi' : ∀ bd : Addr → Prop, ValidF (X.hide bd) k ("isinstance" : Str) (isiT fam)) (h_len' : ∀ bd : Addr → Prop, ValidF (X.hide bd) k ("len" : Str) lenT) (h_num' : ∀ bd : Addr → Prop, ValidF (X.hide bd) k ("is_number" : Str) numT) (k_list' : ∀ bd : Addr → Prop, Known (X.hide bd) ("list" : Str)) (e_BadPieces' : ∀ bd : Addr → Prop, ExcOk (X.hide bd) ("BadPieces" : Str)) {nm : Str} {ps : Arguments} {body : List Stmt} {dl : List Expr} {re : Option Expr} {tp} {sc : Scope} {tc} {q : Str} {pos : Pos}
    (hs : prg.main.body[11]? = some (.FunctionDef nm ps body dl re tp sc tc q pos)) (hf : IsFn X ("need_pieces" : Str) (ps.args.map (·.arg)) body sc) : ValidF X (k + 1) ("need_pieces" : Str) need_piecesT := by
  cases hs
  have hf : IsFn X ("need_pieces" : Str) ["wishes", "pieces"] _ _ := hf
  have cx := cx' X.bad
  have calm := calm' X.bad
  have zipk := zipk' X.bad
  have h_isi := h_isi' X.bad
  have h_len := h_len' X.bad
  have h_num := h_num' X.bad
  have k_list := k_list' X.bad
  have e_BadPieces := e_BadPieces' X.bad
  refine valid_fn cx hf (by decide +kernel) ?_
  rintro _ σ K ⟨i, ws, j, xs, rfl, h1, h2, h3, h4, h⟩
  refine ⟨rfl, fun env => ?_⟩
  dsimp only
  (repeat walk_at "mine_step")
  refine isi_of (isi_list h3) ?_
  (repeat walk_at "mine_step")
  refine ⟨_, h3, h4, ?_⟩
  (repeat walk_at "mine_step")
  refine ⟨_, h1, by simpa using h2, ?_⟩
  (repeat walk_at "mine_step")
  by_cases hl : xs.length = ws.length
  · rw [decide_eq_true (by rw [List.length_map]; omega)]
    (repeat walk_at "mine_step")
    obtain ⟨p, p1, p2, p3⟩ : ∃ p, p ≤ ws.length ∧ needOk ws xs p ∧ ((p = ws.length ∧ K (.val (.d .none) σ)) ∨ (∃ w v, ws[p]? = some w ∧ xs[p]? = some v ∧ badNum σ 0 w.amt v ∧ K (.exn ("BadPieces" : Str) σ))) := by
      rcases h with ⟨hb, hK⟩ | ⟨ps, rfl, hf, hK⟩
      · cases hb with
        | len h => exact absurd hl h
        | @«at» p w v q1 q2 q3 q4 q5 => exact ⟨p, Nat.le_of_lt (List.getElem?_eq_some_iff.mp q3).1, q2, .inr ⟨w, v, q3, q4, q5, hK⟩⟩
      · exact ⟨ws.length, Nat.le_refl _, fits_need hf, .inl ⟨rfl, hK⟩⟩
    refine zip_src ws xs Wish.v id (fun k m σ' => σ' = σ ∧ k ≤ p) h1 (by simpa using h3) ⟨rfl, Nat.zero_le _⟩ ?_ ?_ ?_
    · rintro k m _ ⟨rfl, _⟩
      exact ⟨h1, by simpa using h3⟩
    · rintro k k1 k2 m _ ⟨rfl, hk⟩
      intro bd
      have cx := cx' bd
      have calm := calm' bd
      have zipk := zipk' bd
      have h_isi := h_isi' bd
      have h_len := h_len' bd
      have h_num := h_num' bd
      have k_list := k_list' bd
      have e_BadPieces := e_BadPieces' bd
      by_cases hkp : k < p
      · obtain ⟨w, n, q1, q2, q3, q4⟩ := p2 k hkp
        have e1 : ws[k] = w := by rw [List.getElem?_eq_getElem k1] at q1; exact Option.some.inj q1
        have e2 : xs[k] = vInt n := by rw [List.getElem?_eq_getElem k2] at q2; exact Option.some.inj q2
        rw [e1, e2]
        unfold Wish.v
        dsimp only [id, vInt]
        (repeat walk_at "mine_step")
        refine ⟨_, true, rfl, num_int, ?_⟩
        (repeat walk_at "mine_step")
        rw [decide_eq_true q3]
        (repeat walk_at "mine_step")
        rw [decide_eq_true q4]
        (repeat walk_at "mine_step")
        exact ⟨rfl, hkp⟩
      · have hkp : k = p := by omega
        subst hkp
        rcases p3 with ⟨rfl, _⟩ | ⟨w, v, q1, q2, q3, hK⟩
        · omega
        have e1 : ws[k] = w := by rw [List.getElem?_eq_getElem k1] at q1; exact Option.some.inj q1
        have e2 : xs[k] = v := by rw [List.getElem?_eq_getElem k2] at q2; exact Option.some.inj q2
        rw [e1, e2]
        unfold Wish.v
        dsimp only [id]
        (repeat walk_at "mine_step")
        rcases q3 with hb | ⟨n, rfl, hn⟩
        · refine ⟨_, false, rfl, hb, ?_⟩
          (repeat walk_at "mine_step")
          exact ret_exn .refl hK
        · refine ⟨_, true, rfl, num_int, ?_⟩
          (repeat walk_at "mine_step")
          by_cases q : 0 ≤ n
          · rw [decide_eq_true q]
            (repeat walk_at "mine_step")
            rw [decide_eq_false (by omega)]
            (repeat walk_at "mine_step")
            exact ret_exn .refl hK
          · rw [decide_eq_false q]
            (repeat walk_at "mine_step")
            exact ret_exn .refl hK
    · rintro m _ ⟨rfl, hk⟩
      rcases p3 with ⟨rfl, hK⟩ | ⟨w, v, q1, q2, _, _⟩
      · (repeat walk_at "mine_step")
        exact ret_none .refl hK
      · have := (List.getElem?_eq_some_iff.mp q1).1
        omega
  · rw [decide_eq_false (by rw [List.length_map]; omega)]
    (repeat walk_at "mine_step")
    rcases h with ⟨hb, hK⟩ | ⟨ps, rfl, hf, hK⟩
    · exact ret_exn .refl hK
    · exact absurd (by rw [List.length_map]; exact hf.1) hl
set_option maxHeartbeats 4000000 in
theorem v_cell_at {fam : List Str} {X : Cx} {k : Nat} (cx : CxOk X) (calm : 100 ≤ k) (zipk : X.val ("zip" : Str) = some (.type "zip")) (h_len : ValidF X k ("len" : Str) lenT) {nm : Str} {ps : Arguments} {body : List Stmt} {dl : List Expr} {re : Option Expr} {tp} {sc : Scope} {tc} {q : Str} {pos : Pos}
    (hs : prg.main.body[16]? = some (.FunctionDef nm ps body dl re tp sc tc q pos)) (hf : IsFn X ("_law_cell_at" : Str) (ps.args.map (·.arg)) body sc) : ValidF X (k + 1) ("_law_cell_at" : Str) cell_atT := by
  cases hs
  have hf : IsFn X ("_law_cell_at" : Str) ["_law_script", "_law_k"] _ _ := hf
  refine valid_fn cx hf (by decide +kernel) ?_
  rintro _ σ K ⟨i, ns, j, rfl, h1, h2, hK⟩
  refine ⟨rfl, fun env => ?_⟩
  dsimp only
  (repeat walk_at "mine_step")
  refine ⟨_, h1, by simpa using h2, ?_⟩
  (repeat walk_at "mine_step")
  refine ⟨fun hc => ?_, fun hc => ?_⟩
  · (repeat walk_at "mine_step")
    have hc := of_decide_eq_true hc
    rw [List.length_map] at hc
    refine zqa h1 (by omega) (getD_vInt (by omega)) ?_
    (repeat walk_at "mine_step")
    exact ret_data .refl hK
  · (repeat walk_at "mine_step")
    have hc := of_decide_eq_false hc
    rw [List.length_map] at hc
    have : cellAt ns j = 0 := by unfold cellAt; rw [List.getD_eq_getElem?_getD, List.getElem?_eq_none (by omega)]; rfl
    rw [this] at hK
    exact ret_data .refl hK
set_option maxHeartbeats 4000000 in
theorem v_whole {fam : List Str} {X : Cx} {k : Nat} (cx : CxOk X) (calm : 100 ≤ k) (zipk : X.val ("zip" : Str) = some (.type "zip")) (h_isi : ValidF X k ("isinstance" : Str) (isiT fam)) (k_int : Known X ("int" : Str)) (k_bool : Known X ("bool" : Str)) {nm : Str} {ps : Arguments} {body : List Stmt} {dl : List Expr} {re : Option Expr} {tp} {sc : Scope} {tc} {q : Str} {pos : Pos}
    (hs : prg.main.body[17]? = some (.FunctionDef nm ps body dl re tp sc tc q pos)) (hf : IsFn X ("_law_whole" : Str) (ps.args.map (·.arg)) body sc) : ValidF X (k + 1) ("_law_whole" : Str) wholeT := by
  cases hs
  have hf : IsFn X ("_law_whole" : Str) ["_law_thing"] _ _ := hf
  refine valid_fn cx hf (by decide +kernel) ?_
  rintro _ σ K ⟨i, rfl, hK⟩
  refine ⟨rfl, fun env => ?_⟩
  dsimp only
  (repeat walk_at "mine_step")
  refine ⟨true, isi_int (by decide +kernel), ?_⟩
  (repeat walk_at "mine_step")
  refine ⟨false, isi_int (by decide +kernel), ?_⟩
  (repeat walk_at "mine_step")
  exact ret_data .refl hK
set_option maxHeartbeats 4000000 in
theorem v_wish_by {fam : List Str} {X : Cx} {k : Nat} (cx : CxOk X) (calm : 100 ≤ k) (zipk : X.val ("zip" : Str) = some (.type "zip")) {nm : Str} {ps : Arguments} {body : List Stmt} {dl : List Expr} {re : Option Expr} {tp} {sc : Scope} {tc} {q : Str} {pos : Pos}
    (hs : prg.main.body[18]? = some (.FunctionDef nm ps body dl re tp sc tc q pos)) (hf : IsFn X ("_law_wish_by" : Str) (ps.args.map (·.arg)) body sc) : ValidF X (k + 1) ("_law_wish_by" : Str) wish_byT := by
  cases hs
  have hf : IsFn X ("_law_wish_by" : Str) ["_law_cell"] _ _ := hf
  refine valid_fn cx hf (by decide +kernel) ?_
  rintro _ σ K ⟨c, rfl, hK⟩
  refine ⟨rfl, fun env => ?_⟩
  dsimp only
  (repeat walk_at "mine_step")
  apply if_joinS ("_law_side_here" : Str)
  focus (((repeat walk_at "mine_look"); done))
  focus
    intro hc R hr
    (repeat walk_at "mine_step")
    exact hr
  (repeat walk_at "mine_step")
  apply if_joinI ("_law_limit" : Str)
  focus (((repeat walk_at "mine_look"); done))
  focus
    intro hc R hr
    (repeat walk_at "mine_step")
    exact hr
  (repeat walk_at "mine_step")
  apply if_joinG ("_law_limit" : Str)
  focus (((repeat walk_at "mine_look"); done))
  · intro hc R hr
    (repeat walk_at "mine_step")
    refine zqa itemsAt_new (by omega) (pick_int [0, 1, 999999999, 1000000000] (by simp; omega)) ?_
    (repeat walk_at "mine_step")
    exact hr _ Grown.refl.snoc
  intro τ hg
  (repeat walk_at "mine_step")
  apply if_joinI ("_law_amount" : Str)
  focus (((repeat walk_at "mine_look"); done))
  focus
    intro hc R hr
    (repeat walk_at "mine_step")
    exact hr
  (repeat walk_at "mine_step")
  apply if_joinI ("_law_amount" : Str)
  focus (((repeat walk_at "mine_look"); done))
  focus
    intro hc R hr
    (repeat walk_at "mine_step")
    exact hr
  (repeat walk_at "mine_step")
  refine ret_data hg ?_
  exact (wishF_v c) ▸ hK
set_option maxHeartbeats 4000000 in
theorem v_wishes_by {fam : List Str} {X : Cx} {k : Nat} (cx : CxOk X) (calm : 100 ≤ k) (zipk : X.val ("zip" : Str) = some (.type "zip")) (h_len : ValidF X k ("len" : Str) lenT) (h_wish_by : ValidF X k ("_law_wish_by" : Str) wish_byT) (h_cell_at : ValidF X k ("_law_cell_at" : Str) cell_atT) (h_range : ValidF X k ("range" : Str) rangeT) (m_append : ValidM X k "list" ("append" : Str) appendT) {nm : Str} {ps : Arguments} {body : List Stmt} {dl : List Expr} {re : Option Expr} {tp} {sc : Scope} {tc} {q : Str} {pos : Pos}
    (hs : prg.main.body[19]? = some (.FunctionDef nm ps body dl re tp sc tc q pos)) (hf : IsFn X ("_law_wishes_by" : Str) (ps.args.map (·.arg)) body sc) : ValidF X (k + 1) ("_law_wishes_by" : Str) wishes_byT := by
  cases hs
  have hf : IsFn X ("_law_wishes_by" : Str) ["_law_script", "_law_first", "_law_few"] _ _ := hf
  refine valid_fn cx hf (by decide +kernel) ?_
  rintro _ σ K ⟨i, ns, first, few, rfl, h1, h2', hK⟩
  have h2 : ns.length ≤ 1000000 := by omega
  refine ⟨rfl, fun env => ?_⟩
  dsimp only
  (repeat walk_at "mine_step")
  refine ⟨_, h1, by simpa using h2, ?_⟩
  (repeat walk_at "mine_step")
  apply if_joinI ("_law_many" : Str)
  focus (((repeat walk_at "mine_look"); done))
  focus
    intro hc R hr
    (repeat walk_at "mine_step")
    exact hr
  have em : (if decide ((63 : Int) < ((ns.map vInt).length : Nat)) = true then (150 : Int) else (few : Int)) = ((manyF ns few : Nat) : Int) := by
    rw [List.length_map]; unfold manyF
    by_cases h : 63 < ns.length
    · rw [if_pos h, if_pos (by simpa using (by omega : (63 : Int) < ns.length))]; rfl
    · rw [if_neg h, if_neg (by simpa using (by omega : (ns.length : Int) ≤ 63))]
  rw [em]
  (repeat walk_at "mine_step")
  refine zqd h1 (by simpa using h2) ?_
  rw [show (first : Int) + (manyF ns few : Nat) = ((first + manyF ns few : Nat) : Int) by omega, slice_nat]
  (repeat walk_at "mine_step")
  refine comp_src ((ns.drop first).take (manyF ns few)) vInt (fun c => some (wishF c).v) (src_ref (by rw [itemsAt_new, List.map_take, List.map_drop])) (by simp; omega) ?_ ?_
  · intro c _ env' Y N hY hN
    dsimp only [vInt]
    (repeat walk_at "mine_step")
    refine ⟨c, rfl, ?_⟩
    exact hY _ rfl
  rw [filterMap_some]
  (repeat walk_at "mine_step")
  refine ⟨i, ns, 0, rfl, (Grown.refl.snoc.snoc).items h1, h2, ?_⟩
  (repeat walk_at "mine_step")
  generalize hsl : ((ns.map vInt).drop first).take (manyF ns few) = sl
  generalize hws : ((ns.drop first).take (manyF ns few)).map wishF = ws
  have hws' : ((ns.drop first).take (manyF ns few)).map (fun c => (wishF c).v) = ws.map Wish.v := by rw [← hws, List.map_map]; rfl
  rw [hws']
  have fin : ∀ es, extraF ns = es → retK σ K (.ret (.ref (σ ++ [Cell.lst sl]).length) (σ ++ [Cell.lst sl] ++ [Cell.lst (ws.map Wish.v ++ es.map Wish.v)])) := by
    intro es he
    refine ret_list Grown.refl.snoc.snoc (by simp) get_new (by rw [← List.map_append]; exact v_data) ?_
    rw [← List.map_append, ← he, ← hws]
    exact hK
  refine ⟨fun hc => ?_, fun hc => ?_⟩
  · (repeat walk_at "mine_step")
    refine ⟨i, ns, 1, rfl, (Grown.refl.snoc.snoc).items h1, h2, ?_⟩
    (repeat walk_at "mine_step")
    refine ⟨by omega, ?_⟩
    have hn : (20 + cellAt ns 1 % 30 : Int) = ((20 + cellAt ns 1 % 30).toNat : Nat) := by omega
    rw [hn]
    generalize hn' : (20 + cellAt ns 1 % 30).toNat = n at *
    have hn50 : n ≤ 50 := by omega
    (repeat walk_at "mine_step")
    refine for_src (List.range n) (fun k => vInt k) (fun k m σ' => σ' = σ ++ [Cell.lst sl] ++ [Cell.lst (ws.map Wish.v ++ ((List.range k).map fun j => wishF (cellAt ns 1 + 8191 * (j : Nat))).map Wish.v)] ∧ m ("_law_script" : Str) = some (.ref i) ∧ m ("_law_wishes" : Str) = some (.ref (σ ++ [Cell.lst sl]).length))
      ⟨by simp, by ((repeat walk_at "mine_look"); done), by ((repeat walk_at "mine_look"); done)⟩ (fun k m σ' _ => src_rng k) ?_ ?_
    · rintro k hk m _ ⟨rfl, hm1, hm2⟩
      dsimp only [vInt]
      (repeat walk_at "mine_step")
      refine zqg itemsAt_new m_append ?_
      (repeat walk_at "mine_step")
      refine ⟨i, ns, 1, rfl, (Grown.refl.snoc.snoc).items h1, h2, ?_⟩
      (repeat walk_at "mine_step")
      refine ⟨_, rfl, ?_⟩
      (repeat walk_at "mine_step")
      rw [List.length_range] at hk
      refine ⟨_, get_new, ?_, ?_⟩
      · have : ws.length ≤ ns.length := by rw [← hws]; simp; omega
        simp; omega
      rw [set_new, List.getElem_range]
      (repeat walk_at "mine_step")
      refine ⟨?_, by ((repeat walk_at "mine_look"); done), by ((repeat walk_at "mine_look"); done)⟩
      rw [List.range_succ, List.map_append, List.map_append, ← List.append_assoc]
      rfl
    · rintro m _ ⟨rfl, hm1, hm2⟩
      (repeat walk_at "mine_step")
      rw [List.length_range]
      exact fin _ (by unfold extraF; rw [if_pos (of_decide_eq_true hc), ← hn'])
  · (repeat walk_at "mine_step")
    have := fin [] (by unfold extraF; rw [if_neg (of_decide_eq_false hc)])
    simpa using this
set_option maxHeartbeats 4000000 in
theorem v_pieces_by {fam : List Str} {X : Cx} {k : Nat} (cx : CxOk X) (calm : 100 ≤ k) (zipk : X.val ("zip" : Str) = some (.type "zip")) (h_len : ValidF X k ("len" : Str) lenT) (h_range : ValidF X k ("range" : Str) rangeT) (m_append : ValidM X k "list" ("append" : Str) appendT) {nm : Str} {ps : Arguments} {body : List Stmt} {dl : List Expr} {re : Option Expr} {tp} {sc : Scope} {tc} {q : Str} {pos : Pos}
    (hs : prg.main.body[20]? = some (.FunctionDef nm ps body dl re tp sc tc q pos)) (hf : IsFn X ("_law_pieces_by" : Str) (ps.args.map (·.arg)) body sc) : ValidF X (k + 1) ("_law_pieces_by" : Str) pieces_byT := by
  cases hs
  have hf : IsFn X ("_law_pieces_by" : Str) ["_law_wishes", "_law_cell"] _ _ := hf
  refine valid_fn cx hf (by decide +kernel) ?_
  rintro _ σ K ⟨i, ws, cell, rfl, h1, h2, ho, hK⟩
  refine ⟨rfl, fun env => ?_⟩
  dsimp only
  (repeat walk_at "mine_step")
  refine ⟨_, Grown.refl.snoc.items h1, by simpa using h2, ?_⟩
  (repeat walk_at "mine_step")
  rw [List.length_map]
  refine ⟨by omega, ?_⟩
  (repeat walk_at "mine_step")
  refine for_src (List.range ws.length) (fun k => vInt k) (fun k m σ' => ∃ ps : List Int, σ' = σ ++ [Cell.lst (ps.map vInt)] ∧ ps.length = k ∧ (∀ (k : Nat) (w : Wish) (n : Int), ws[k]? = some w → ps[k]? = some n → 0 ≤ n ∧ n ≤ w.amt) ∧
    m ("_law_wishes" : Str) = some (.ref i) ∧ m ("_law_cell" : Str) = some (.d (.int cell)) ∧ m ("_law_pieces" : Str) = some (.ref σ.length))
    ⟨[], by simp, rfl, by simp, by ((repeat walk_at "mine_look"); done), by ((repeat walk_at "mine_look"); done), by ((repeat walk_at "mine_look"); done)⟩ (fun k m σ' _ => src_rng k) ?_ ?_
  · rintro k hk m _ ⟨ps, rfl, hps, hfit, hm1, hm2, hm3⟩
    rw [List.length_range] at hk
    rw [List.getElem_range]
    dsimp only [vInt]
    have ok := ho _ (List.getElem_mem hk)
    have ew : ws[k]? = some ws[k] := List.getElem?_eq_getElem hk
    have ev : (ws.map Wish.v)[((k : Nat) : Int).toNat]? = some ws[k].v := by rw [Int.toNat_natCast, List.getElem?_map, ew]; rfl
    have snoc : ∀ n : Int, 0 ≤ n → n ≤ ws[k].amt → ∀ (j : Nat) (w : Wish) (n' : Int), ws[j]? = some w → (ps ++ [n])[j]? = some n' → 0 ≤ n' ∧ n' ≤ w.amt := by
      intro n n0 n1 j w n' q1 q2
      by_cases hj : j < ps.length
      · rw [List.getElem?_append_left hj] at q2; exact hfit j w n' q1 q2
      · have hl := (List.getElem?_eq_some_iff.mp q2).1
        simp at hl
        have : j = k := by omega
        subst this
        rw [ew] at q1; cases q1
        rw [← hps] at q2
        simp at q2; subst q2
        exact ⟨n0, n1⟩
    generalize ws[k] = w at *
    have a1 := ok.2.2.1
    have a2 := ok.2.2.2
    (repeat walk_at "mine_step")
    refine zqa (Grown.refl.snoc.items h1) ⟨by omega, by omega⟩ ev ?_
    unfold Wish.v
    (repeat walk_at "mine_step")
    generalize (cell + 7919 * (k : Int)) * 48271 % 2147483647 = far
    refine zqj (by omega) ?_
    have e0 := Int.emod_nonneg (far / 7) (show w.amt + 1 ≠ 0 by omega)
    have e1 := Int.emod_lt_of_pos (far / 7) (show 0 < w.amt + 1 by omega)
    (repeat walk_at "mine_step")
    apply if_joinI ("_law_many" : Str)
    focus (((repeat walk_at "mine_look"); done))
    focus
      intro hc R hr
      (repeat walk_at "mine_step")
      exact hr
    obtain ⟨n, en, n0, n1⟩ : ∃ n : Int, (if decide (far % 7 < 2) = true then 0 else far / 7 % (w.amt + 1)) = n ∧ 0 ≤ n ∧ n ≤ w.amt := ⟨_, rfl, by split <;> omega, by split <;> omega⟩
    rw [en]
    (repeat walk_at "mine_step")
    refine zqb (fun q => ?_) (fun q => ?_)
    rotate_left
    (repeat walk_at "mine_step")
    refine zqb (fun q2 => ?_) (fun q2 => ?_)
    all_goals (repeat walk_at "mine_step")
    all_goals first
      | (refine zqa (Grown.refl.snoc.items h1) ⟨by omega, by omega⟩ ev ?_
         unfold Wish.v
         (repeat walk_at "mine_step"))
      | skip
    all_goals refine zqg itemsAt_new m_append ?_
    all_goals (repeat walk_at "mine_step")
    all_goals refine ⟨_, get_new, by simp; omega, ?_⟩
    all_goals rw [set_new]
    all_goals (repeat walk_at "mine_step")
    all_goals first
      | (refine ⟨ps ++ [n], ?_, by simp [hps], snoc n n0 n1, by ((repeat walk_at "mine_look"); done), by ((repeat walk_at "mine_look"); done), by ((repeat walk_at "mine_look"); done)⟩
         rw [List.map_append]; rfl)
      | (refine ⟨ps ++ [w.amt], ?_, by simp [hps], snoc w.amt (by omega) (by omega), by ((repeat walk_at "mine_look"); done), by ((repeat walk_at "mine_look"); done), by ((repeat walk_at "mine_look"); done)⟩
         rw [List.map_append]; rfl)
  · rintro m _ ⟨ps, rfl, hps, hfit, hm1, hm2, hm3⟩
    rw [List.length_range] at hps
    (repeat walk_at "mine_step")
    exact ret_list Grown.refl.snoc (Nat.le_refl _) get_new (by simp [vInt]) (hK ps ⟨hps, hfit⟩)
set_option maxHeartbeats 4000000 in
theorem v_names {fam : List Str} {X : Cx} {k : Nat} (cx : CxOk X) (h_isiAll : ValidF X k ("isinstance" : Str) isiAllT) (k_BadWish : Known X ("BadWish" : Str)) (k_BadPrice : Known X ("BadPrice" : Str)) (k_BadPieces : Known X ("BadPieces" : Str)) (k_Uneven : Known X ("Uneven" : Str)) (k_NoSuch : Known X ("NoSuch" : Str)) (k_Unread : Known X ("Unread" : Str)) (k_ValueError : Known X ("ValueError" : Str)) {nm : Str} {ps : Arguments} {body : List Stmt} {dl : List Expr} {re : Option Expr} {tp} {sc : Scope} {tc} {q : Str} {pos : Pos}
    (hs : prg.main.body[23]? = some (.FunctionDef nm ps body dl re tp sc tc q pos)) (hf : IsFn X ("_law_names" : Str) (ps.args.map (·.arg)) body sc) : ValidF X (k + 1) ("_law_names" : Str) namesT := by
  cases hs
  have hf : IsFn X ("_law_names" : Str) ["_law_e"] _ _ := hf
  refine valid_fn cx hf (by decide +kernel) ?_
  rintro _ σ K ⟨p, hp, rfl, hK⟩
  simp only [sixNames, List.mem_cons, List.not_mem_nil, or_false] at hp
  rcases hp with rfl | rfl | rfl | rfl | rfl | rfl
  all_goals refine ⟨rfl, fun env => ?_⟩
  all_goals dsimp only
  all_goals (repeat walk_at "mine_step")
  all_goals exact ret_data .refl hK

set_option Elab.async false
set_option autoImplicit false
set_option linter.unusedVariables false
set_option linter.unusedSimpArgs false
set_option maxRecDepth 100000
open PySem PySem.Spec PySem.Calls PyProof.Rows
set_option maxHeartbeats 4000000 in
theorem v_pairs {fam : List Str} {X : Cx} {k : Nat} (cx : CxOk X) (calm : 100 ≤ k) (zipk : X.val ("zip" : Str) = some (.type "zip")) (h_even : ValidF X k ("even" : Str) evenT) (h_list : ValidF X k ("list" : Str) listT) (h_range : ValidF X k ("range" : Str) rangeT) (h_len : ValidF X k ("len" : Str) lenT) (h_min : ValidF X k ("min" : Str) minT) (e_Uneven : ExcOk X ("Uneven" : Str)) (m_append : ValidM X k "list" ("append" : Str) appendT) {nm : Str} {ps : Arguments} {body : List Stmt} {dl : List Expr} {re : Option Expr} {tp} {sc : Scope} {tc} {q : Str} {pos : Pos}
    (hs : prg.main.body[14]? = some (.FunctionDef nm ps body dl re tp sc tc q pos)) (hf : IsFn X ("pairs" : Str) (ps.args.map (·.arg)) body sc) : ValidF X (k + 1) ("pairs" : Str) pairsT := by
  cases hs
  have hf : IsFn X ("pairs" : Str) ["wishes", "pieces"] _ _ := hf
  refine valid_fn cx hf (by decide +kernel) ?_
  rintro _ σ K ⟨i, ws, j, xs, rfl, h1, h2', h3, h4, h⟩
  have h2 : ws.length ≤ 1000000 := by omega
  refine ⟨rfl, fun env => ?_⟩
  dsimp only
  rcases h with ⟨hb, hK⟩ | ⟨ps, rfl, hf, ⟨hne, hK⟩ | ⟨he, hK⟩⟩
  · (repeat walk_at "mine_step")
    refine ⟨i, ws, j, xs, rfl, h1, h2, h3, h4, .inl ⟨hb, ?_⟩⟩
    (repeat walk_at "mine_step")
    exact ret_exn .refl hK
  · (repeat walk_at "mine_step")
    refine ⟨i, ws, j, _, rfl, h1, h2, h3, h4, .inr ⟨ps, rfl, hf, ?_⟩⟩
    rw [show evenF ws ps = false from decide_eq_false hne]
    (repeat walk_at "mine_step")
    exact ret_exn .refl hK
  · have hl := hf.1
    (repeat walk_at "mine_step")
    refine ⟨i, ws, j, _, rfl, h1, h2, h3, h4, .inr ⟨ps, rfl, hf, ?_⟩⟩
    rw [show evenF ws ps = true from decide_eq_true he]
    (repeat walk_at "mine_step")
    refine ⟨_, h3, h4, ?_⟩
    (repeat walk_at "mine_step")
    refine ⟨_, Grown.refl.snoc.items h1, by simpa using h2, ?_⟩
    (repeat walk_at "mine_step")
    rw [List.length_map]
    refine ⟨by omega, ?_⟩
    (repeat walk_at "mine_step")
    refine comp_src (List.range ws.length) natV (fun k => if ((wAt ws k).buy == true) && decide (0 < ps.getD k 0) then some (natV k) else none) (fun k => src_rngN k) (by simpa using h2) ?_ ?_
    · intro k hk env' Y N hY hN
      have hk := List.mem_range.mp hk
      have hso := side_ok (wAt ws k)
      have ev := vAt hk
      have ep := iAt (ps := ps) (k := k) (by omega)
      dsimp only [natV] at hY ⊢
      (repeat walk_at "mine_step")
      refine zqa (Grown.refl.snoc.items h1) ⟨by omega, by omega⟩ ev ?_
      unfold Wish.v
      (repeat walk_at "mine_step")
      rw [buy_beq]
      refine zqb (fun hb => ?_) (fun hb => ?_)
      · (repeat walk_at "mine_step")
        refine zqa (Grown.refl.snoc.items h3) ⟨by omega, by omega⟩ ep ?_
        (repeat walk_at "mine_step")
        refine zqb (fun hp => ?_) (fun hp => ?_)
        · (repeat walk_at "mine_step")
          exact hY _ (by rw [hb, hp]; rfl)
        · (repeat walk_at "mine_step")
          exact hN (by rw [hb, hp]; rfl)
      · (repeat walk_at "mine_step")
        exact hN (by rw [hb]; rfl)
    rw [busy_items]
    (repeat walk_at "mine_step")
    refine ⟨_, Grown.refl.snoc.snoc.items h1, by simpa using h2, ?_⟩
    (repeat walk_at "mine_step")
    rw [List.length_map]
    refine ⟨by omega, ?_⟩
    (repeat walk_at "mine_step")
    refine comp_src (List.range ws.length) natV (fun k => if ((wAt ws k).buy == false) && decide (0 < ps.getD k 0) then some (natV k) else none) (fun k => src_rngN k) (by simpa using h2) ?_ ?_
    · intro k hk env' Y N hY hN
      have hk := List.mem_range.mp hk
      have hso := side_ok (wAt ws k)
      have ev := vAt hk
      have ep := iAt (ps := ps) (k := k) (by omega)
      dsimp only [natV] at hY ⊢
      (repeat walk_at "mine_step")
      refine zqa (Grown.refl.snoc.snoc.items h1) ⟨by omega, by omega⟩ ev ?_
      unfold Wish.v
      (repeat walk_at "mine_step")
      rw [sell_beq]
      refine zqb (fun hb => ?_) (fun hb => ?_)
      · rw [Bool.not_eq_true'] at hb
        (repeat walk_at "mine_step")
        refine zqa (Grown.refl.snoc.snoc.items h3) ⟨by omega, by omega⟩ ep ?_
        (repeat walk_at "mine_step")
        refine zqb (fun hp => ?_) (fun hp => ?_)
        · (repeat walk_at "mine_step")
          exact hY _ (by rw [hb, hp]; rfl)
        · (repeat walk_at "mine_step")
          exact hN (by rw [hb, hp]; rfl)
      · rw [Bool.not_eq_false'] at hb
        (repeat walk_at "mine_step")
        exact hN (by rw [hb]; rfl)
    rw [busy_items]
    (repeat walk_at "mine_step")
    have pi := PInv.start hl (fun k hk => (fits_at hf hk).1) he
    have pc := cnt_start (ws := ws) (ps := ps) (c := true) (d := false)
    have hSl : (busyF ws ps false).length ≤ ws.length := Nat.le_trans (List.length_filter_le ..) (by simp)
    generalize busyF ws ps true = B at *
    generalize busyF ws ps false = S at *
    refine for_src B natV (fun k m σ' => ∃ (rest : List Int) (at' : Nat) (found : List (Nat × Nat × Int)), σ' = σ ++ [Cell.lst (rest.map vInt)] ++ [Cell.lst (B.map natV)] ++ [Cell.lst (S.map natV)] ++ [Cell.lst (found.map dealV)] ∧
      PInv ws ps rest (B.drop k) (S.drop at') found ∧ cntP rest (B.drop k) (S.drop at') found ≤ 2 * ws.length ∧ m ("rest" : Str) = some (.ref σ.length) ∧ m ("sellers" : Str) = some (.ref (σ.length + 2)) ∧ m ("found" : Str) = some (.ref (σ.length + 3)) ∧ m ("at" : Str) = some (.d (.int (at' : Nat))))
      ⟨ps, 0, [], rfl, pi, pc, by ((repeat walk_at "mine_look"); done), ?_, ?_, by ((repeat walk_at "mine_look"); done)⟩ ?_ ?_ ?_
    · refine Eq.trans (b := some (.ref (σ ++ [Cell.lst (ps.map vInt)] ++ [Cell.lst (B.map natV)]).length)) (by ((repeat walk_at "mine_look"); done)) (by simp)
    · refine Eq.trans (b := some (.ref (σ ++ [Cell.lst (ps.map vInt)] ++ [Cell.lst (B.map natV)] ++ [Cell.lst (S.map natV)]).length)) (by ((repeat walk_at "mine_look"); done)) (by simp)
    · rintro k m _ ⟨rest, at', found, rfl, _⟩
      rw [show (σ ++ [Cell.lst (ps.map vInt)]).length = σ.length + 1 by simp]
      exact src_ref it41 k
    · rintro k hk m _ ⟨rest, at', found, rfl, pi, pc, m1, m2, m3, m4⟩
      rw [List.drop_eq_getElem_cons hk] at pi pc
      generalize B[k] = b at *
      generalize hBs : B.drop (k + 1) = Bs at *
      dsimp only [natV]
      (repeat walk_at "mine_step")
      refine while_src (fun N m σ' => ∃ (rest : List Int) (at' : Nat) (found : List (Nat × Nat × Int)), σ' = σ ++ [Cell.lst (rest.map vInt)] ++ [Cell.lst (B.map natV)] ++ [Cell.lst (S.map natV)] ++ [Cell.lst (found.map dealV)] ∧
        PInv ws ps rest (b :: Bs) (S.drop at') found ∧ cntP rest (b :: Bs) (S.drop at') found ≤ 2 * ws.length ∧ N = (rest.getD b 0).toNat ∧ m ("rest" : Str) = some (.ref σ.length) ∧ m ("sellers" : Str) = some (.ref (σ.length + 2)) ∧ m ("found" : Str) = some (.ref (σ.length + 3)) ∧ m ("at" : Str) = some (.d (.int (at' : Nat))) ∧ m ("buyer" : Str) = some (.d (.int (b : Nat)))) _
        ⟨rest, at', found, rfl, pi, pc, rfl, by ((repeat walk_at "mine_look"); done), by ((repeat walk_at "mine_look"); done), by ((repeat walk_at "mine_look"); done), by ((repeat walk_at "mine_look"); done), by ((repeat walk_at "mine_look"); done)⟩ ?_
      clear m1 m2 m3 m4 m pi pc
      rintro N m _ ⟨rest, at', found, rfl, pi, pc, rfl, m1, m2, m3, m4, m5⟩
      have hb := pi.bs b List.mem_cons_self
      have hbl : b < rest.length := by rw [pi.len]; exact hb.1
      have epb := iAt hbl
      (repeat walk_at "mine_step")
      refine zqa it40 ⟨by omega, by omega⟩ epb ?_
      (repeat walk_at "mine_step")
      refine ⟨fun hc => ?_, fun hc => ?_⟩
      · have hc := of_decide_eq_true hc
        obtain ⟨s, Ss, eS⟩ := pi.more hc
        have hat : at' < S.length := by
          have := congrArg List.length eS
          simp at this; omega
        have eS2 := List.drop_eq_getElem_cons hat
        rw [eS] at eS2
        obtain ⟨es1, es2⟩ := List.cons.inj eS2
        rw [eS] at pi pc
        have hs := pi.ss s List.mem_cons_self
        have hsl : s < rest.length := by rw [pi.len]; exact hs.1
        have eps := iAt hsl
        have hne : b ≠ s := fun q => by have := hb.2.1; rw [q, hs.2.1] at this; cases this
        have eSt := nAt hat
        rw [← es1] at eSt
        obtain ⟨n, hn⟩ : ∃ n, n = min (rest.getD b 0) (rest.getD s 0) := ⟨_, rfl⟩
        have hn2 : (if rest.getD s 0 < rest.getD b 0 then rest.getD s 0 else rest.getD b 0) = n := by rw [hn]; split <;> omega
        obtain ⟨pd, gb, gs⟩ := pi.deal hc hn
        have cd := Nat.le_trans (cnt_deal pi hc hn) pc
        have hfl : found.length ≤ 2 * ws.length := by unfold cntP at pc; omega
        have e1 : (take1 rest b n).getD s 0 = rest.getD s 0 := by rw [take1_get hbl, if_neg hne.symm]
        have hsl2 : s < (take1 rest b n).length := by rw [take1_len]; exact hsl
        have eps2 := iAt hsl2
        rw [e1] at eps2
        have eps3 := iAt (ps := dealStep rest (b, s, n)) (k := s) (by rw [dealStep_len]; exact hsl)
        have n1 : 0 < n := by have := hs.2.2; omega
        (repeat walk_at "mine_step")
        refine zqa it42 ⟨by omega, by omega⟩ eSt ?_
        dsimp only [natV]
        (repeat walk_at "mine_step")
        refine zqa it40 ⟨by omega, by omega⟩ epb ?_
        (repeat walk_at "mine_step")
        refine zqa it40 ⟨by omega, by omega⟩ eps ?_
        (repeat walk_at "mine_step")
        dsimp only [minT, vInt]
        (repeat walk_at "mine_step")
        rw [hn2]
        (repeat walk_at "mine_step")
        refine zqg it43 m_append ?_
        (repeat walk_at "mine_step")
        refine ⟨_, get43, by simp; omega, ?_⟩
        rw [set43]
        (repeat walk_at "mine_step")
        refine zqa it40 ⟨by omega, by omega⟩ epb ?_
        (repeat walk_at "mine_step")
        refine zql get40 ⟨by omega, by omega⟩ (by rw [List.length_map]; omega) ?_
        rw [set40, set_ints, show rest.set b (rest.getD b 0 - n) = take1 rest b n from rfl]
        (repeat walk_at "mine_step")
        refine zqa it40 ⟨by omega, by omega⟩ eps2 ?_
        (repeat walk_at "mine_step")
        refine zql get40 ⟨by omega, by omega⟩ (by rw [List.length_map]; omega) ?_
        rw [set40, set_ints, show (take1 rest b n).set s (rest.getD s 0 - n) = dealStep rest (b, s, n) by unfold dealStep; dsimp only; unfold take1 at e1 ⊢; rw [e1]]
        (repeat walk_at "mine_step")
        refine zqa it40 ⟨by omega, by omega⟩ eps3 ?_
        (repeat walk_at "mine_step")
        have ef : found.map dealV ++ [V.d (PyData.tuple [PyData.int (b : Nat), PyData.int (s : Nat), PyData.int n])] = (found ++ [(b, s, n)]).map dealV := by rw [List.map_append]; rfl
        rw [ef]
        refine ⟨fun hz => ?_, fun hz => ?_⟩
        · have hz := of_decide_eq_true hz
          rw [if_pos hz, es2] at pd cd
          (repeat walk_at "mine_step")
          refine ⟨_, ?_, dealStep rest (b, s, n), at' + 1, _, rfl, pd, cd, rfl, by ((repeat walk_at "mine_look"); done), by ((repeat walk_at "mine_look"); done), by ((repeat walk_at "mine_look"); done), ?_, by ((repeat walk_at "mine_look"); done)⟩
          · rw [gb]; omega
          · exact Eq.trans (b := some (.d (.int ((at' : Int) + 1)))) (by ((repeat walk_at "mine_look"); done)) rfl
        · have hz := of_decide_eq_false hz
          rw [if_neg hz, ← eS] at pd cd
          (repeat walk_at "mine_step")
          refine ⟨_, ?_, dealStep rest (b, s, n), at', _, rfl, pd, cd, rfl, by ((repeat walk_at "mine_look"); done), by ((repeat walk_at "mine_look"); done), by ((repeat walk_at "mine_look"); done), by ((repeat walk_at "mine_look"); done), by ((repeat walk_at "mine_look"); done)⟩
          rw [gb]; omega
      · have hc := of_decide_eq_false hc
        (repeat walk_at "mine_step")
        exact ⟨rest, at', found, rfl, pi.next (by omega), Nat.le_trans cnt_next pc, by ((repeat walk_at "mine_look"); done), by ((repeat walk_at "mine_look"); done), by ((repeat walk_at "mine_look"); done), by ((repeat walk_at "mine_look"); done)⟩
    · rintro m _ ⟨rest, at', found, rfl, pi, pc, m1, m2, m3, m4⟩
      rw [List.drop_length] at pi pc
      have hfl : found.length ≤ 2 * ws.length := by unfold cntP at pc; omega
      (repeat walk_at "mine_step")
      refine ret_list Grown.refl.snoc.snoc.snoc.snoc (by omega) get43 ?_ (hK found ⟨pi.walk ▸ pi.done, pi.good, pi.rise, hfl⟩)
      intro v hv
      obtain ⟨d, _, rfl⟩ := List.mem_map.mp hv
      exact ⟨_, rfl⟩
set_option maxHeartbeats 4000000 in
theorem v_side_sum {fam : List Str} {X : Cx} {k : Nat} (cx : CxOk X) (calm : 100 ≤ k) (zipk : X.val ("zip" : Str) = some (.type "zip")) (h_sum : ValidF X k ("sum" : Str) sumT) (h_range : ValidF X k ("range" : Str) rangeT) (h_len : ValidF X k ("len" : Str) lenT) {nm : Str} {ps : Arguments} {body : List Stmt} {dl : List Expr} {re : Option Expr} {tp} {sc : Scope} {tc} {q : Str} {pos : Pos}
    (hs : prg.main.body[12]? = some (.FunctionDef nm ps body dl re tp sc tc q pos)) (hf : IsFn X ("side_sum" : Str) (ps.args.map (·.arg)) body sc) : ValidF X (k + 1) ("side_sum" : Str) side_sumT := by
  cases hs
  have hf : IsFn X ("side_sum" : Str) ["wishes", "pieces", "side"] _ _ := hf
  refine valid_fn cx hf (by decide +kernel) ?_
  rintro _ σ K ⟨i, j, ws, ps, b, rfl, h1, h2, h3, h4, hK⟩
  refine ⟨rfl, fun env => ?_⟩
  dsimp only
  have hsb := sideS_ok b
  (repeat walk_at "mine_step")
  refine ⟨_, h1, by simpa using h2, ?_⟩
  (repeat walk_at "mine_step")
  rw [List.length_map]
  refine ⟨by omega, ?_⟩
  (repeat walk_at "mine_step")
  refine comp_src (List.range ws.length) (fun k => vInt k) (fun k => if (wAt ws k).buy == b then some (vInt (ps.getD k 0)) else none) (fun k => src_rng k) (by simpa using h2) ?_ ?_
  · intro k hk env' Y N hY hN
    have hk := List.mem_range.mp hk
    have hso := side_ok (wAt ws k)
    have ev := vAt hk
    have ep := iAt (ps := ps) (k := k) (by omega)
    dsimp only [vInt]
    (repeat walk_at "mine_step")
    refine zqa h1 ⟨by omega, by omega⟩ ev ?_
    unfold Wish.v
    (repeat walk_at "mine_step")
    rw [side_beq]
    refine zqb (fun hb => ?_) (fun hb => ?_)
    · (repeat walk_at "mine_step")
      refine zqa h3 ⟨by omega, by omega⟩ ep ?_
      exact hY _ (by rw [hb]; rfl)
    · (repeat walk_at "mine_step")
      exact hN (by rw [hb]; rfl)
  · (repeat walk_at "mine_step")
    refine ⟨_, itemsAt_new.trans (congrArg some side_items), ?_⟩
    (repeat walk_at "mine_step")
    exact ret_data Grown.refl.snoc hK
set_option maxHeartbeats 4000000 in
theorem v_even {fam : List Str} {X : Cx} {k : Nat} (cx : CxOk X) (calm : 100 ≤ k) (zipk : X.val ("zip" : Str) = some (.type "zip")) (h_need_pieces : ValidF X k ("need_pieces" : Str) need_piecesT) (h_side_sum : ValidF X k ("side_sum" : Str) side_sumT) {nm : Str} {ps : Arguments} {body : List Stmt} {dl : List Expr} {re : Option Expr} {tp} {sc : Scope} {tc} {q : Str} {pos : Pos}
    (hs : prg.main.body[13]? = some (.FunctionDef nm ps body dl re tp sc tc q pos)) (hf : IsFn X ("even" : Str) (ps.args.map (·.arg)) body sc) : ValidF X (k + 1) ("even" : Str) evenT := by
  cases hs
  have hf : IsFn X ("even" : Str) ["wishes", "pieces"] _ _ := hf
  refine valid_fn cx hf (by decide +kernel) ?_
  rintro _ σ K ⟨i, ws, j, xs, rfl, h1, h2, h3, h4, h⟩
  refine ⟨rfl, fun env => ?_⟩
  dsimp only
  rcases h with ⟨hb, hK⟩ | ⟨ps, rfl, hf, hK⟩
  · (repeat walk_at "mine_step")
    refine ⟨i, ws, j, xs, rfl, h1, h2, h3, h4, .inl ⟨hb, ?_⟩⟩
    (repeat walk_at "mine_step")
    exact ret_exn .refl hK
  · (repeat walk_at "mine_step")
    refine ⟨i, ws, j, _, rfl, h1, h2, h3, h4, .inr ⟨ps, rfl, hf, ?_⟩⟩
    (repeat walk_at "mine_step")
    refine ⟨i, j, ws, ps, true, rfl, h1, h2, h3, hf.1, ?_⟩
    (repeat walk_at "mine_step")
    refine ⟨i, j, ws, ps, false, rfl, h1, h2, h3, hf.1, ?_⟩
    (repeat walk_at "mine_step")
    exact ret_data .refl hK
set_option maxHeartbeats 4000000 in
theorem v_lside {fam : List Str} {X : Cx} {k : Nat} (cx : CxOk X) (calm : 100 ≤ k) (zipk : X.val ("zip" : Str) = some (.type "zip")) (h_sum : ValidF X k ("sum" : Str) sumT) (h_range : ValidF X k ("range" : Str) rangeT) (h_len : ValidF X k ("len" : Str) lenT) {nm : Str} {ps : Arguments} {body : List Stmt} {dl : List Expr} {re : Option Expr} {tp} {sc : Scope} {tc} {q : Str} {pos : Pos}
    (hs : prg.main.body[21]? = some (.FunctionDef nm ps body dl re tp sc tc q pos)) (hf : IsFn X ("_law_side" : Str) (ps.args.map (·.arg)) body sc) : ValidF X (k + 1) ("_law_side" : Str) lsideT := by
  cases hs
  have hf : IsFn X ("_law_side" : Str) ["_law_wishes", "_law_pieces", "_law_side_here"] _ _ := hf
  refine valid_fn cx hf (by decide +kernel) ?_
  rintro _ σ K ⟨i, j, ws, ps, b, rfl, h1, h2, h3, h4, hK⟩
  refine ⟨rfl, fun env => ?_⟩
  dsimp only
  have hsb := sideS_ok b
  (repeat walk_at "mine_step")
  refine ⟨_, h1, by simpa using h2, ?_⟩
  (repeat walk_at "mine_step")
  rw [List.length_map]
  refine ⟨by omega, ?_⟩
  (repeat walk_at "mine_step")
  refine comp_src (List.range ws.length) (fun k => vInt k) (fun k => if (wAt ws k).buy == b then some (vInt (ps.getD k 0)) else none) (fun k => src_rng k) (by simpa using h2) ?_ ?_
  · intro k hk env' Y N hY hN
    have hk := List.mem_range.mp hk
    have hso := side_ok (wAt ws k)
    have ev := vAt hk
    have ep := iAt (ps := ps) (k := k) (by omega)
    dsimp only [vInt]
    (repeat walk_at "mine_step")
    refine zqa h1 ⟨by omega, by omega⟩ ev ?_
    unfold Wish.v
    (repeat walk_at "mine_step")
    rw [side_beq]
    refine zqb (fun hb => ?_) (fun hb => ?_)
    · (repeat walk_at "mine_step")
      refine zqa h3 ⟨by omega, by omega⟩ ep ?_
      exact hY _ (by rw [hb]; rfl)
    · (repeat walk_at "mine_step")
      exact hN (by rw [hb]; rfl)
  · (repeat walk_at "mine_step")
    refine ⟨_, itemsAt_new.trans (congrArg some side_items), ?_⟩
    (repeat walk_at "mine_step")
    exact ret_data Grown.refl.snoc hK
set_option maxHeartbeats 4000000 in
theorem v_evened {fam : List Str} {X : Cx} {k : Nat} (cx : CxOk X) (calm : 100 ≤ k) (zipk : X.val ("zip" : Str) = some (.type "zip")) (h_lside : ValidF X k ("_law_side" : Str) lsideT) (h_len : ValidF X k ("len" : Str) lenT) (h_range : ValidF X k ("range" : Str) rangeT) (h_min : ValidF X k ("min" : Str) minT) (m_append : ValidM X k "list" ("append" : Str) appendT) {nm : Str} {ps : Arguments} {body : List Stmt} {dl : List Expr} {re : Option Expr} {tp} {sc : Scope} {tc} {q : Str} {pos : Pos}
    (hs : prg.main.body[22]? = some (.FunctionDef nm ps body dl re tp sc tc q pos)) (hf : IsFn X ("_law_evened" : Str) (ps.args.map (·.arg)) body sc) : ValidF X (k + 1) ("_law_evened" : Str) evenedT := by
  cases hs
  have hf : IsFn X ("_law_evened" : Str) ["_law_wishes", "_law_pieces"] _ _ := hf
  refine valid_fn cx hf (by decide +kernel) ?_
  rintro _ σ K ⟨i, j, ws, ps, rfl, h1, h2', h3, hf, hK⟩
  have h2 : ws.length ≤ 1000000 := by omega
  have hl := hf.1
  refine ⟨rfl, fun env => ?_⟩
  dsimp only
  (repeat walk_at "mine_step")
  refine ⟨i, j, ws, ps, true, rfl, h1, h2, h3, hl, ?_⟩
  (repeat walk_at "mine_step")
  refine ⟨i, j, ws, ps, false, rfl, h1, h2, h3, hl, ?_⟩
  (repeat walk_at "mine_step")
  refine ⟨_, Grown.refl.snoc.items h1, by simpa using h2, ?_⟩
  (repeat walk_at "mine_step")
  rw [List.length_map]
  refine ⟨by omega, ?_⟩
  (repeat walk_at "mine_step")
  refine for_src (List.range ws.length) (fun k => vInt k) (fun k m σ' => ∃ (qs : List Int) (over : Int), σ' = σ ++ [Cell.lst (qs.map vInt)] ∧ EInv ws ps qs over k ∧ m ("_law_wishes" : Str) = some (.ref i) ∧ m ("_law_pieces" : Str) = some (.ref j) ∧ m ("_law_found" : Str) = some (.ref σ.length) ∧ m ("_law_over" : Str) = some (.d (.int over)))
    ⟨[], _, rfl, EInv.start hl, by ((repeat walk_at "mine_look"); done), by ((repeat walk_at "mine_look"); done), by ((repeat walk_at "mine_look"); done), by ((repeat walk_at "mine_look"); done)⟩ (fun k m σ' _ => src_rng k) ?_ ?_
  · rintro k hk m _ ⟨qs, over, rfl, ei, m1, m2, m3, m4⟩
    rw [List.length_range] at hk
    rw [List.getElem_range]
    dsimp only [vInt]
    have ev := vAt hk
    have ep := iAt (ps := ps) (k := k) (by omega)
    have hso := side_ok (wAt ws k)
    have hq := ei.len
    have esn := fun {less over' : Int} => ei.snoc (less := less) (over' := over') hk hl (fits_at hf hk)
    have hw := fits_at hf hk
    generalize hwk : wAt ws k = w at *
    generalize ps.getD k 0 = n at *
    (repeat walk_at "mine_step")
    refine zqa (Grown.refl.snoc.items h1) ⟨by omega, by omega⟩ ev ?_
    unfold Wish.v at ev ⊢
    (repeat walk_at "mine_step")
    rw [buy_beq]
    cases hb : w.buy
    · (repeat walk_at "mine_step")
      refine zqa (Grown.refl.snoc.items h1) ⟨by omega, by omega⟩ ev ?_
      (repeat walk_at "mine_step")
      rw [sell_beq, hb]
      (repeat walk_at "mine_step")
      by_cases c : over < 0
      · rw [decide_eq_true c]
        (repeat walk_at "mine_step")
        refine zqa (Grown.refl.snoc.items h3) ⟨by omega, by omega⟩ ep ?_
        (repeat walk_at "mine_step")
        dsimp only [minT, vInt]
        (repeat walk_at "mine_step")
        refine zqg itemsAt_new m_append ?_
        (repeat walk_at "mine_step")
        refine zqa (Grown.refl.snoc.items h3) ⟨by omega, by omega⟩ ep ?_
        (repeat walk_at "mine_step")
        refine ⟨_, get_new, by simp; omega, ?_⟩
        rw [set_new]
        (repeat walk_at "mine_step")
        refine ⟨_, _, ?_, esn (less := if -over < n then -over else n) (over' := over + (if -over < n then -over else n)) (.inr (.inl ⟨hb, c, by split <;> omega, rfl⟩)), by ((repeat walk_at "mine_look"); done), by ((repeat walk_at "mine_look"); done), by ((repeat walk_at "mine_look"); done), by ((repeat walk_at "mine_look"); done)⟩
        rw [List.map_append]; rfl
      · rw [decide_eq_false c]
        (repeat walk_at "mine_step")
        refine zqg itemsAt_new m_append ?_
        (repeat walk_at "mine_step")
        refine zqa (Grown.refl.snoc.items h3) ⟨by omega, by omega⟩ ep ?_
        (repeat walk_at "mine_step")
        refine ⟨_, get_new, by simp; omega, ?_⟩
        rw [set_new]
        (repeat walk_at "mine_step")
        refine ⟨_, _, ?_, esn (less := 0) (over' := over) (.inr (.inr ⟨fun q => (by rw [hb] at q; cases q), fun _ => (by omega), rfl, rfl⟩)), by ((repeat walk_at "mine_look"); done), by ((repeat walk_at "mine_look"); done), by ((repeat walk_at "mine_look"); done), by ((repeat walk_at "mine_look"); done)⟩
        rw [List.map_append]; rfl
    · (repeat walk_at "mine_step")
      by_cases c : 0 < over
      · rw [decide_eq_true c]
        (repeat walk_at "mine_step")
        refine zqa (Grown.refl.snoc.items h3) ⟨by omega, by omega⟩ ep ?_
        (repeat walk_at "mine_step")
        dsimp only [minT, vInt]
        (repeat walk_at "mine_step")
        refine zqg itemsAt_new m_append ?_
        (repeat walk_at "mine_step")
        refine zqa (Grown.refl.snoc.items h3) ⟨by omega, by omega⟩ ep ?_
        (repeat walk_at "mine_step")
        refine ⟨_, get_new, by simp; omega, ?_⟩
        rw [set_new]
        (repeat walk_at "mine_step")
        refine ⟨_, _, ?_, esn (less := if over < n then over else n) (over' := over - (if over < n then over else n)) (.inl ⟨hb, c, by split <;> omega, rfl⟩), by ((repeat walk_at "mine_look"); done), by ((repeat walk_at "mine_look"); done), by ((repeat walk_at "mine_look"); done), by ((repeat walk_at "mine_look"); done)⟩
        rw [List.map_append]; rfl
      · rw [decide_eq_false c]
        (repeat walk_at "mine_step")
        refine zqa (Grown.refl.snoc.items h1) ⟨by omega, by omega⟩ ev ?_
        (repeat walk_at "mine_step")
        rw [sell_beq, hb]
        (repeat walk_at "mine_step")
        refine zqg itemsAt_new m_append ?_
        (repeat walk_at "mine_step")
        refine zqa (Grown.refl.snoc.items h3) ⟨by omega, by omega⟩ ep ?_
        (repeat walk_at "mine_step")
        refine ⟨_, get_new, by simp; omega, ?_⟩
        rw [set_new]
        (repeat walk_at "mine_step")
        refine ⟨_, _, ?_, esn (less := 0) (over' := over) (.inr (.inr ⟨fun _ => (by omega), fun q => (by rw [hb] at q; cases q), rfl, rfl⟩)), by ((repeat walk_at "mine_look"); done), by ((repeat walk_at "mine_look"); done), by ((repeat walk_at "mine_look"); done), by ((repeat walk_at "mine_look"); done)⟩
        rw [List.map_append]; rfl
  · rintro m _ ⟨qs, over, rfl, ei, m1, m2, m3, m4⟩
    rw [List.length_range] at ei
    (repeat walk_at "mine_step")
    have ee := ei.end hl
    exact ret_list Grown.refl.snoc (Nat.le_refl _) get_new (by simp [vInt]) (hK qs (fits_of ee.1 ei.fit) ee.2)

set_option Elab.async false
set_option autoImplicit false
set_option linter.unusedVariables false
set_option linter.unusedSimpArgs false
set_option maxRecDepth 100000
open PySem PySem.Spec PySem.Calls PyProof.Rows
theorem ints_data {ps : List Int} : ∀ v ∈ ps.map vInt, ∃ x, v = V.d x := by
  intro v hv
  obtain ⟨a, _, rfl⟩ := List.mem_map.mp hv; exact ⟨_, rfl⟩
noncomputable def refusal9T : Contract := fun vs σ K => ∃ i ws j xs, vs = [.ref i, .ref j] ∧ itemsAt σ i = some (ws.map Wish.v) ∧ ws.length ≤ 400000 ∧ itemsAt σ j = some xs ∧ xs.length ≤ 1000000 ∧
  ((badPieces σ ws xs ∧ K (.val (.d (.str ("pieces " : Str))) σ)) ∨ ∃ ps, xs = ps.map vInt ∧ fitsF ws ps ∧ sideF ws ps true ≠ sideF ws ps false ∧ K (.val (.d (.str ("uneven " : Str))) σ))
noncomputable def shakenT : Contract := fun vs σ K => ∃ (i j : Nat) (ws : List Wish) (ps : List Int) (cell : Int), vs = [.ref i, .ref j, .d (.int cell)] ∧ itemsAt σ i = some (ws.map Wish.v) ∧ 0 < ws.length ∧ ws.length ≤ 900000 ∧ (∀ w ∈ ws, w.ok) ∧ itemsAt σ j = some (ps.map vInt) ∧ fitsF ws ps ∧ sideF ws ps true = sideF ws ps false ∧
  ∀ qs : List Int, fitsF ws qs → sideF ws qs true ≠ sideF ws qs false → K (.val (.ref σ.length) (σ ++ [.lst (qs.map vInt)]))
theorem shake_fits {ws : List Wish} {ps : List Int} (hf : fitsF ws ps) (he : sideF ws ps true = sideF ws ps false) {k : Nat} (hk : k < ws.length) {x : Int} (hx : 0 ≤ x ∧ x ≤ (wAt ws k).amt) (hne : x ≠ ps.getD k 0) : fitsF ws (ps.set k x) ∧ sideF ws (ps.set k x) true ≠ sideF ws (ps.set k x) false := by
  have hkl : k < ps.length := by rw [hf.1]; exact hk
  refine ⟨fits_of (by simp [hf.1]) fun j hj => ?_, ?_⟩
  · rw [List.getD_eq_getElem?_getD, List.getElem?_set]
    by_cases e : k = j
    · subst e; rw [if_pos rfl, if_pos hkl]; exact hx
    · rw [if_neg e, ← List.getD_eq_getElem?_getD]; exact fits_at hf hj
  · rw [side_set hk hkl, side_set hk hkl, he]
    cases (wAt ws k).buy
    · simp only [show (false == true) = false from rfl, Bool.false_eq_true, if_false, beq_self_eq_true, if_true]; omega
    · simp only [show (true == false) = false from rfl, Bool.false_eq_true, if_false, beq_self_eq_true, if_true]; omega
noncomputable def pairT : Contract := fun vs σ K => ∃ (i : Nat) (ws : List Wish) (d : Nat × Nat × Int), vs = [dealV d, .ref i] ∧ itemsAt σ i = some (ws.map Wish.v) ∧ ws.length ≤ 1000000 ∧ DealOk ws d ∧ K (.val (.d (.bool true)) σ)
noncomputable def walkedT : Contract := fun vs σ K => ∃ (l i j : Nat) (ws : List Wish) (ps : List Int) (found : List (Nat × Nat × Int)), vs = [.ref l, .ref i, .ref j] ∧ itemsAt σ l = some (found.map dealV) ∧ itemsAt σ i = some (ws.map Wish.v) ∧ ws.length ≤ 400000 ∧ itemsAt σ j = some (ps.map vInt) ∧ ps.length = ws.length ∧ Deals ws ps found ∧ K (.val (.d (.bool true)) σ)
theorem fold_len {ps : List Int} : ∀ (l : List (Nat × Nat × Int)), (l.foldl dealStep ps).length = ps.length := fun l => by
  induction l generalizing ps with
  | nil => rfl
  | cons d l ih => rw [List.foldl_cons, ih, dealStep_len]
theorem fold_succ {ps : List Int} {l : List (Nat × Nat × Int)} {k : Nat} (h : k < l.length) : (l.take (k + 1)).foldl dealStep ps = dealStep ((l.take k).foldl dealStep ps) l[k] := by
  rw [List.take_succ_eq_append_getElem h, List.foldl_append]; rfl
theorem zeros (ws : List Wish) : ws.filterMap (fun _ => some (V.d (.int 0))) = (List.replicate ws.length (0 : Int)).map vInt := by
  rw [filterMap_some]
  induction ws with
  | nil => rfl
  | cons w r ih => rw [List.map_cons, ih]; rfl
set_option maxHeartbeats 4000000 in
theorem v_refusal9 {fam : List Str} {X : Cx} {k : Nat} (cx : CxOk X) (calm : 100 ≤ k) (zipk : X.val ("zip" : Str) = some (.type "zip")) (h_pairs : ValidF X k ("pairs" : Str) pairsT) (e_BidError : ExcOk X ("BidError" : Str)) (e_BadPieces : ExcOk X ("BadPieces" : Str)) (e_Uneven : ExcOk X ("Uneven" : Str)) (hh_names : ValidF X 99 ("_law_names" : Str) namesT) (kin : ∀ c D, famAll.contains c = true → famAll.contains D = true → SubOk X c D) {nm : Str} {ps : Arguments} {body : List Stmt} {dl : List Expr} {re : Option Expr} {tp} {sc : Scope} {tc} {q : Str} {pos : Pos}
    (hs : prg.main.body[24]? = some (.FunctionDef nm ps body dl re tp sc tc q pos)) (hf : IsFn X ("_law_refusal" : Str) (ps.args.map (·.arg)) body sc) : ValidF X (k + 1) ("_law_refusal" : Str) refusal9T := by
  cases hs
  have hf : IsFn X ("_law_refusal" : Str) ["_law_wishes", "_law_pieces"] _ _ := hf
  refine valid_fn cx hf (by decide +kernel) ?_
  rintro _ σ K ⟨i, ws, j, xs, rfl, h1, h2, h3, h4, h⟩
  refine ⟨rfl, fun env => ?_⟩
  dsimp only
  rcases h with ⟨hb, hK⟩ | ⟨ps, rfl, hf, hne, hK⟩
  · (repeat walk_at "mine_step")
    refine ⟨i, ws, j, xs, rfl, h1, h2, h3, h4, .inl ⟨hb, ?_⟩⟩
    (repeat walk_at "mine_step")
    refine ⟨("BadPieces", "pieces "), by simp [sixNames], rfl, ?_⟩
    (repeat walk_at "mine_step")
    exact ret_data .refl hK
  · (repeat walk_at "mine_step")
    refine ⟨i, ws, j, _, rfl, h1, h2, h3, h4, .inr ⟨ps, rfl, hf, .inl ⟨hne, ?_⟩⟩⟩
    (repeat walk_at "mine_step")
    refine ⟨("Uneven", "uneven "), by simp [sixNames], rfl, ?_⟩
    (repeat walk_at "mine_step")
    exact ret_data .refl hK
set_option maxHeartbeats 4000000 in
theorem v_shaken {fam : List Str} {X : Cx} {k : Nat} (cx : CxOk X) (calm : 100 ≤ k) (zipk : X.val ("zip" : Str) = some (.type "zip")) (h_list : ValidF X k ("list" : Str) listT) (h_range : ValidF X k ("range" : Str) rangeT) (h_len : ValidF X k ("len" : Str) lenT) {nm : Str} {ps : Arguments} {body : List Stmt} {dl : List Expr} {re : Option Expr} {tp} {sc : Scope} {tc} {q : Str} {pos : Pos}
    (hs : prg.main.body[25]? = some (.FunctionDef nm ps body dl re tp sc tc q pos)) (hf : IsFn X ("_law_shaken" : Str) (ps.args.map (·.arg)) body sc) : ValidF X (k + 1) ("_law_shaken" : Str) shakenT := by
  cases hs
  have hf : IsFn X ("_law_shaken" : Str) ["_law_wishes", "_law_pieces", "_law_cell"] _ _ := hf
  refine valid_fn cx hf (by decide +kernel) ?_
  rintro _ σ K ⟨i, j, ws, ps, cell, rfl, h1, h0, h2, ho, h3, hf, he, hK⟩
  have hl := hf.1
  refine ⟨rfl, fun env => ?_⟩
  dsimp only
  (repeat walk_at "mine_step")
  refine ⟨_, h3, by simp; omega, ?_⟩
  (repeat walk_at "mine_step")
  refine ⟨_, Grown.refl.snoc.items h1, by simp; omega, ?_⟩
  (repeat walk_at "mine_step")
  rw [List.length_map]
  refine ⟨by omega, ?_⟩
  (repeat walk_at "mine_step")
  refine for_src (List.range ws.length) natV (fun k m σ' => k = 0 ∧ σ' = σ ++ [Cell.lst (ps.map vInt)] ∧ m ("_law_wishes" : Str) = some (.ref i) ∧ m ("_law_cell" : Str) = some (.d (.int cell)) ∧ m ("_law_found" : Str) = some (.ref σ.length))
    ⟨rfl, rfl, by ((repeat walk_at "mine_look"); done), by ((repeat walk_at "mine_look"); done), by ((repeat walk_at "mine_look"); done)⟩ (fun k m σ' _ => src_rngN k) ?_ ?_
  · rintro k hk m _ ⟨rfl, rfl, m1, m2, m3⟩
    rw [List.getElem_range]
    dsimp only [natV]
    (repeat walk_at "mine_step")
    refine ⟨_, Grown.refl.snoc.items h1, by simp; omega, ?_⟩
    rw [List.length_map]
    (repeat walk_at "mine_step")
    refine zqj (by omega) ?_
    have p0 := Int.emod_nonneg (cell + ((0 : Nat) : Int)) (show (ws.length : Int) ≠ 0 by omega)
    have p1 := Int.emod_lt_of_pos (cell + ((0 : Nat) : Int)) (show 0 < (ws.length : Int) by omega)
    obtain ⟨p, hp⟩ := Int.eq_ofNat_of_zero_le p0
    rw [hp] at p1 ⊢
    have hpw : p < ws.length := by omega
    have ev := vAt hpw
    have ep := iAt (ps := ps) (k := p) (by omega)
    have hw := fits_at hf hpw
    have a1 := amt_pos ho hpw
    have sh := fun {x : Int} => shake_fits (x := x) hf he hpw
    generalize wAt ws p = w at *
    generalize ps.getD p 0 = n at *
    unfold Wish.v at ev
    (repeat walk_at "mine_step")
    refine zqa itemsAt_new ⟨by omega, by omega⟩ ep ?_
    (repeat walk_at "mine_step")
    refine zqa (Grown.refl.snoc.items h1) ⟨by omega, by omega⟩ ev ?_
    (repeat walk_at "mine_step")
    refine ⟨fun hc => ?_, fun hc => ?_⟩
    · have hc := of_decide_eq_true hc
      (repeat walk_at "mine_step")
      refine zqa itemsAt_new ⟨by omega, by omega⟩ ep ?_
      (repeat walk_at "mine_step")
      refine zql get_new ⟨by omega, by omega⟩ (by rw [List.length_map]; omega) ?_
      rw [set_new, set_ints]
      (repeat walk_at "mine_step")
      have q := sh (x := n + 1) (by omega) (by omega)
      exact ret_list Grown.refl.snoc (Nat.le_refl _) get_new ints_data (hK _ q.1 q.2)
    · have hc := of_decide_eq_false hc
      (repeat walk_at "mine_step")
      refine zqa itemsAt_new ⟨by omega, by omega⟩ ep ?_
      (repeat walk_at "mine_step")
      rw [decide_eq_true (show 0 < n by omega)]
      (repeat walk_at "mine_step")
      refine zqa itemsAt_new ⟨by omega, by omega⟩ ep ?_
      (repeat walk_at "mine_step")
      refine zql get_new ⟨by omega, by omega⟩ (by rw [List.length_map]; omega) ?_
      rw [set_new, set_ints]
      (repeat walk_at "mine_step")
      have q := sh (x := n - 1) (by omega) (by omega)
      exact ret_list Grown.refl.snoc (Nat.le_refl _) get_new ints_data (hK _ q.1 q.2)
  · rintro m _ ⟨q, _⟩
    rw [List.length_range] at q
    omega
set_option maxHeartbeats 4000000 in
theorem v_pair {fam : List Str} {X : Cx} {k : Nat} (cx : CxOk X) (calm : 100 ≤ k) (zipk : X.val ("zip" : Str) = some (.type "zip")) (h_isi : ValidF X k ("isinstance" : Str) (isiT fam)) (h_len : ValidF X k ("len" : Str) lenT) (h_whole : ValidF X k ("_law_whole" : Str) wholeT) (k_tuple : Known X ("tuple" : Str)) {nm : Str} {ps : Arguments} {body : List Stmt} {dl : List Expr} {re : Option Expr} {tp} {sc : Scope} {tc} {q : Str} {pos : Pos}
    (hs : prg.main.body[26]? = some (.FunctionDef nm ps body dl re tp sc tc q pos)) (hf : IsFn X ("_law_pair" : Str) (ps.args.map (·.arg)) body sc) : ValidF X (k + 1) ("_law_pair" : Str) pairT := by
  cases hs
  have hf : IsFn X ("_law_pair" : Str) ["_law_deal", "_law_wishes"] _ _ := hf
  refine valid_fn cx hf (by decide +kernel) ?_
  rintro _ σ K ⟨i, ws, ⟨b, s, n⟩, rfl, h1, h2, hd, hK⟩
  obtain ⟨d1, d2, d3, d4, d5⟩ := hd
  dsimp only at d1 d2 d3 d4 d5
  refine ⟨rfl, fun env => ?_⟩
  dsimp only [dealV, dealD]
  have ev1 := vAt d1
  have ev2 := vAt d2
  have hs1 := side_ok (wAt ws b)
  have hs2 := side_ok (wAt ws s)
  have e1 := buy_beq (wAt ws b)
  have e2 := sell_beq (wAt ws s)
  rw [d3] at e1
  rw [d4] at e2
  generalize wAt ws b = wb at *
  generalize wAt ws s = wsl at *
  unfold Wish.v at ev1 ev2
  (repeat walk_at "mine_step")
  refine isi_of (isi_tup) ?_
  (repeat walk_at "mine_step")
  refine ⟨by simp, ?_⟩
  (repeat walk_at "mine_step")
  refine for_src [PyData.int (b : Nat), .int (s : Nat), .int n] V.d (fun k m σ' => σ' = σ ∧ m ("_law_deal" : Str) = some (.d (.tuple [.int (b : Nat), .int (s : Nat), .int n])) ∧ m ("_law_wishes" : Str) = some (.ref i)) ⟨rfl, by ((repeat walk_at "mine_look"); done), by ((repeat walk_at "mine_look"); done)⟩ (fun k m σ' _ => src_tup k) ?_ ?_
  · rintro k hk m _ ⟨rfl, m1, m2⟩
    have hk : k = 0 ∨ k = 1 ∨ k = 2 := by simp at hk; omega
    rcases hk with rfl | rfl | rfl
    all_goals (dsimp only [List.getElem_cons_zero, List.getElem_cons_succ]; (repeat walk_at "mine_step"))
    all_goals refine ⟨_, rfl, ?_⟩
    all_goals (repeat walk_at "mine_step")
    all_goals exact ⟨rfl, by ((repeat walk_at "mine_look"); done), by ((repeat walk_at "mine_look"); done)⟩
  · rintro m _ ⟨rfl, m1, m2⟩
    (repeat walk_at "mine_step")
    refine ⟨_, h1, by simpa using h2, ?_⟩
    rw [List.length_map]
    (repeat walk_at "mine_step")
    rw [decide_eq_true (show ((b : Nat) : Int) < (ws.length : Nat) by omega)]
    (repeat walk_at "mine_step")
    refine ⟨_, h1, by simpa using h2, ?_⟩
    rw [List.length_map]
    (repeat walk_at "mine_step")
    rw [decide_eq_true (show ((s : Nat) : Int) < (ws.length : Nat) by omega)]
    (repeat walk_at "mine_step")
    rw [decide_eq_false (show ¬ n < 1 by omega)]
    (repeat walk_at "mine_step")
    refine zqa h1 ⟨by omega, by omega⟩ ev1 ?_
    (repeat walk_at "mine_step")
    refine zqa h1 ⟨by omega, by omega⟩ ev2 ?_
    (repeat walk_at "mine_step")
    rw [e2]
    exact ret_data .refl hK

set_option Elab.async false
set_option autoImplicit false
set_option linter.unusedVariables false
set_option linter.unusedSimpArgs false
set_option maxRecDepth 100000
open PySem PySem.Spec PySem.Calls PyProof.Rows
set_option maxHeartbeats 4000000 in
theorem v_walked {fam : List Str} {X : Cx} {k : Nat} (cx : CxOk X) (calm : 100 ≤ k) (zipk : X.val ("zip" : Str) = some (.type "zip")) (h_isi : ValidF X k ("isinstance" : Str) (isiT fam)) (h_list : ValidF X k ("list" : Str) listT) (h_range : ValidF X k ("range" : Str) rangeT) (h_len : ValidF X k ("len" : Str) lenT) (h_pair : ValidF X k ("_law_pair" : Str) pairT) (k_list : Known X ("list" : Str)) {nm : Str} {ps : Arguments} {body : List Stmt} {dl : List Expr} {re : Option Expr} {tp} {sc : Scope} {tc} {q : Str} {pos : Pos}
    (hs : prg.main.body[27]? = some (.FunctionDef nm ps body dl re tp sc tc q pos)) (hf : IsFn X ("_law_walked" : Str) (ps.args.map (·.arg)) body sc) : ValidF X (k + 1) ("_law_walked" : Str) walkedT := by
  cases hs
  have hf : IsFn X ("_law_walked" : Str) ["_law_found", "_law_wishes", "_law_pieces"] _ _ := hf
  refine valid_fn cx hf (by decide +kernel) ?_
  rintro _ σ K ⟨l, i, j, ws, ps, found, rfl, h0, h1, h2, h3, hl, hd, hK⟩
  have hfl := hd.len
  refine ⟨rfl, fun env => ?_⟩
  dsimp only
  (repeat walk_at "mine_step")
  refine isi_of (isi_list h0) ?_
  (repeat walk_at "mine_step")
  refine ⟨_, h3, by simp; omega, ?_⟩
  (repeat walk_at "mine_step")
  refine ⟨_, Grown.refl.snoc.items h0, by simp; omega, ?_⟩
  (repeat walk_at "mine_step")
  rw [List.length_map]
  refine ⟨by omega, ?_⟩
  (repeat walk_at "mine_step")
  refine for_src (List.range found.length) natV (fun k m σ' => σ' = σ ++ [Cell.lst (((found.take k).foldl dealStep ps).map vInt)] ∧ m ("_law_found" : Str) = some (.ref l) ∧ m ("_law_wishes" : Str) = some (.ref i) ∧ m ("_law_left" : Str) = some (.ref σ.length))
    ⟨rfl, by ((repeat walk_at "mine_look"); done), by ((repeat walk_at "mine_look"); done), by ((repeat walk_at "mine_look"); done)⟩ (fun k m σ' _ => src_rngN k) ?_ ?_
  · rintro k hk m _ ⟨rfl, m1, m2, m3⟩
    rw [List.length_range] at hk
    rw [List.getElem_range]
    dsimp only [natV]
    have ef : (found.map dealV)[((k : Nat) : Int).toNat]? = some (dealV found[k]) := by rw [Int.toNat_natCast, List.getElem?_map, List.getElem?_eq_getElem hk]; rfl
    have es := fold_succ (ps := ps) hk
    have ok := hd.good _ (List.getElem_mem hk)
    have hr : ∀ (j : Nat), k = j + 1 → ∃ e, (found.map dealV)[((k : Nat) : Int).toNat - 1]? = some (dealV e) ∧ Rise e found[k] := fun j hj => by
      subst hj
      refine ⟨found[j], ?_, hd.rise j _ _ (List.getElem?_eq_getElem (by omega)) (List.getElem?_eq_getElem hk)⟩
      rw [Int.toNat_natCast, Nat.add_sub_cancel, List.getElem?_map, List.getElem?_eq_getElem (by omega)]; rfl
    have hlen := fold_len (ps := ps) (found.take k)
    rw [es]
    generalize (found.take k).foldl dealStep ps = left at *
    generalize found[k] = d at *
    obtain ⟨b, s, n⟩ := d
    obtain ⟨d1, d2, d3, d4, d5⟩ := id ok
    dsimp only at d1 d2 d3 d4 d5
    have hne : b ≠ s := fun q => by rw [q, d4] at d3; cases d3
    have hbl : b < left.length := by omega
    have hsl : s < left.length := by omega
    have epb := iAt hbl
    have e1 : (take1 left b n).getD s 0 = left.getD s 0 := by rw [take1_get hbl, if_neg hne.symm]
    have eps2 := iAt (ps := take1 left b n) (k := s) (by rw [take1_len]; exact hsl)
    rw [e1] at eps2
    (repeat walk_at "mine_step")
    refine zqa (Grown.refl.snoc.items h0) ⟨by omega, by omega⟩ ef ?_
    (repeat walk_at "mine_step")
    refine ⟨_, ws, (b, s, n), rfl, Grown.refl.snoc.items h1, by omega, ok, ?_⟩
    (repeat walk_at "mine_step")
    refine if_joinP (fun m τ => τ = σ ++ [Cell.lst (left.map vInt)] ∧ m ("_law_found" : Str) = some (.ref l) ∧ m ("_law_wishes" : Str) = some (.ref i) ∧ m ("_law_left" : Str) = some (.ref σ.length) ∧ m ("_law_deal" : Str) = some (.d (.tuple [.int (b : Nat), .int (s : Nat), .int n]))) (fun hc R hR => ?_) (fun hc R hR => ?_) ?_
    · have hc := of_decide_eq_true hc
      obtain ⟨⟨b', s', n'⟩, he, hrise⟩ := hr (k - 1) (by omega)
      obtain ⟨q1, q2, q3⟩ := hrise
      dsimp only at q1 q2 q3
      have he' : (found.map dealV)[(((k : Nat) : Int) - 1).toNat]? = some (dealV (b', s', n')) := by rw [← he]; congr 1; omega
      (repeat walk_at "mine_step")
      refine zqa (Grown.refl.snoc.items h0) ⟨by omega, by omega⟩ he' ?_
      dsimp only [dealV, dealD]
      (repeat walk_at "mine_step")
      rw [decide_eq_false (show ¬ ((b : Nat) : Int) < (b' : Nat) by omega)]
      (repeat walk_at "mine_step")
      rw [decide_eq_false (show ¬ ((s : Nat) : Int) < (s' : Nat) by omega)]
      (repeat walk_at "mine_step")
      refine zqu ?_
      (repeat walk_at "mine_step")
      refine zqu ?_
      (repeat walk_at "mine_step")
      refine zqk rfl rfl rfl rfl ?_
      rw [show PyData.eqv (.tuple [.int (b : Nat), .int (s : Nat)]) (.tuple [.int (b' : Nat), .int (s' : Nat)]) = false by
        have hne2 : ¬ (((b : Nat) : Int) = (b' : Nat) ∧ ((s : Nat) : Int) = (s' : Nat)) := by omega
        rw [Bool.eq_false_iff]
        intro hh
        apply hne2
        simpa [PyData.eqv, PyData.eqvAll] using hh]
      (repeat walk_at "mine_step")
      exact hR _ _ ⟨rfl, by ((repeat walk_at "mine_look"); done), by ((repeat walk_at "mine_look"); done), by ((repeat walk_at "mine_look"); done), by ((repeat walk_at "mine_look"); done)⟩
    · (repeat walk_at "mine_step")
      exact hR _ _ ⟨rfl, by ((repeat walk_at "mine_look"); done), by ((repeat walk_at "mine_look"); done), by ((repeat walk_at "mine_look"); done), by ((repeat walk_at "mine_look"); done)⟩
    clear m1 m2 m3 m
    rintro m _ ⟨rfl, m1, m2, m3, m4⟩
    (repeat walk_at "mine_step")
    refine zqa itemsAt_new ⟨by omega, by omega⟩ epb ?_
    (repeat walk_at "mine_step")
    refine zql get_new ⟨by omega, by omega⟩ (by rw [List.length_map]; omega) ?_
    rw [set_new, set_ints, show left.set b (left.getD b 0 - n) = take1 left b n from rfl]
    (repeat walk_at "mine_step")
    refine zqa itemsAt_new ⟨by omega, by omega⟩ eps2 ?_
    (repeat walk_at "mine_step")
    refine zql get_new ⟨by omega, by omega⟩ (by rw [List.length_map, take1_len]; omega) ?_
    rw [set_new, set_ints, show (take1 left b n).set s (left.getD s 0 - n) = dealStep left (b, s, n) by unfold dealStep; dsimp only; unfold take1 at e1 ⊢; rw [e1]]
    (repeat walk_at "mine_step")
    exact ⟨rfl, by ((repeat walk_at "mine_look"); done), by ((repeat walk_at "mine_look"); done), by ((repeat walk_at "mine_look"); done)⟩
  · rintro m _ ⟨rfl, m1, m2, m3⟩
    rw [List.length_range, List.take_length, hd.zero]
    (repeat walk_at "mine_step")
    refine comp_src ws Wish.v (fun _ => some (.d (.int 0))) (src_ref (Grown.refl.snoc.items h1)) (by omega) ?_ ?_
    · intro w _ env' Y N hY hN
      (repeat walk_at "mine_step")
      exact hY _ rfl
    rw [zeros]
    (repeat walk_at "mine_step")
    refine eq_ints (Grown.refl.snoc.items itemsAt_new) itemsAt_new ?_
    rw [decide_eq_true rfl]
    (repeat walk_at "mine_step")
    exact ret_data Grown.refl.snoc.snoc hK
theorem pick9 {σ : Store} {a : Int} (ha : 1 ≤ a) (c : Int) : ∃ v, ([.d .none, .d (.int (-1)), .d (.bool true), .d (.int (a + 1)), .d (.bool false), .ref σ.length, .d (.str ("1" : Str)), .ref (σ ++ [Cell.lst [V.d (.int 1)]]).length] : List V)[(c % 8).toNat]? = some v ∧
    badNum (σ ++ [Cell.lst [V.d (.int 1)]] ++ [Cell.dct]) 0 a v := by
  have : (c % 8).toNat = 0 ∨ (c % 8).toNat = 1 ∨ (c % 8).toNat = 2 ∨ (c % 8).toNat = 3 ∨ (c % 8).toNat = 4 ∨ (c % 8).toNat = 5 ∨ (c % 8).toNat = 6 ∨ (c % 8).toNat = 7 := by omega
  rcases this with h | h | h | h | h | h | h | h <;> rw [h]
  · exact ⟨_, rfl, .inl num_none⟩
  · exact ⟨_, rfl, .inr ⟨_, rfl, by omega⟩⟩
  · exact ⟨_, rfl, .inl num_bool⟩
  · exact ⟨_, rfl, .inr ⟨_, rfl, by omega⟩⟩
  · exact ⟨_, rfl, .inl num_bool⟩
  · exact ⟨_, rfl, .inl (num_lst (xs := [.d (.int 1)]) (by simp))⟩
  · exact ⟨_, rfl, .inl num_str⟩
  · exact ⟨_, rfl, .inl (num_dct (by simp))⟩

set_option Elab.async false
set_option autoImplicit false
set_option linter.unusedVariables false
set_option linter.unusedSimpArgs false
set_option maxRecDepth 100000
open PySem PySem.Spec PySem.Calls PyProof.Rows
set_option maxHeartbeats 4000000 in
theorem v_goal {fam : List Str} {X : Cx} {k : Nat} (cx : CxOk X) (calm : 100 ≤ k) (zipk : X.val ("zip" : Str) = some (.type "zip")) (h_wishes_by : ValidF X k ("_law_wishes_by" : Str) wishes_byT) (h_cell_at : ValidF X k ("_law_cell_at" : Str) cell_atT) (h_pieces_by : ValidF X k ("_law_pieces_by" : Str) pieces_byT) (h_evened : ValidF X k ("_law_evened" : Str) evenedT) (h_len : ValidF X k ("len" : Str) lenT) (h_shaken : ValidF X k ("_law_shaken" : Str) shakenT) (h_list : ValidF X k ("list" : Str) listT) (h_refusal9 : ValidF X k ("_law_refusal" : Str) refusal9T) (h_pairs : ValidF X k ("pairs" : Str) pairsT) (h_walked : ValidF X k ("_law_walked" : Str) walkedT) {nm : Str} {ps : Arguments} {body : List Stmt} {dl : List Expr} {re : Option Expr} {tp} {sc : Scope} {tc} {q : Str} {pos : Pos}
    (hs : prg.main.body[28]? = some (.FunctionDef nm ps body dl re tp sc tc q pos)) (hf : IsFn X ("law" : Str) (ps.args.map (·.arg)) body sc) : ValidF X (k + 1) ("law" : Str) goalT := by
  cases hs
  have hf : IsFn X ("law" : Str) ["_law_script"] _ _ := hf
  refine valid_fn cx hf (by decide +kernel) ?_
  rintro _ σ K ⟨i, ns, rfl, h1, h63, hK⟩
  have h2 : ns.length ≤ 900000 := by omega
  refine ⟨rfl, fun env => ?_⟩
  dsimp only
  (repeat walk_at "mine_step")
  refine ⟨i, ns, 4, 24, rfl, h1, h2, ?_⟩
  have hl : (wishesF ns 4 24).length ≤ 400000 := by
    have : (wishesF ns 4 24).length ≤ 24 + 63 + 150 + 50 := by
      unfold wishesF extraF
      simp only [List.length_append, List.length_map, List.length_take, List.length_drop]
      split <;> simp <;> omega
    omega
  have ho : ∀ w ∈ wishesF ns 4 24, w.ok := wishesF_ok
  generalize wishesF ns 4 24 = ws at *
  (repeat walk_at "mine_step")
  refine ⟨i, ns, 2, rfl, Grown.refl.snoc.items h1, by omega, ?_⟩
  (repeat walk_at "mine_step")
  refine ⟨_, ws, _, rfl, itemsAt_new, by omega, ho, fun ps0 hf0 => ?_⟩
  (repeat walk_at "mine_step")
  refine ⟨_, _, ws, ps0, rfl, Grown.refl.snoc.items itemsAt_new, by omega, itemsAt_new, hf0, fun ps hf he => ?_⟩
  have hps := hf.1
  have hg : Grown (σ ++ [Cell.lst (ws.map Wish.v)]) (σ ++ [Cell.lst (ws.map Wish.v)] ++ [Cell.lst (ps0.map vInt)] ++ [Cell.lst (ps.map vInt)]) := Grown.refl.snoc.snoc
  have hp1 : itemsAt (σ ++ [Cell.lst (ws.map Wish.v)] ++ [Cell.lst (ps0.map vInt)] ++ [Cell.lst (ps.map vInt)]) (σ ++ [Cell.lst (ws.map Wish.v)] ++ [Cell.lst (ps0.map vInt)]).length = some (ps.map vInt) := itemsAt_new
  generalize σ ++ [Cell.lst (ws.map Wish.v)] ++ [Cell.lst (ps0.map vInt)] ++ [Cell.lst (ps.map vInt)] = τ at *
  generalize (σ ++ [Cell.lst (ws.map Wish.v)] ++ [Cell.lst (ps0.map vInt)]).length = l at *
  have g1 : Grown σ τ := Grown.refl.snoc.trans hg
  have hw : itemsAt τ σ.length = some (ws.map Wish.v) := hg.items itemsAt_new
  (repeat walk_at "mine_step")
  refine ⟨i, ns, 3, rfl, g1.items h1, by omega, ?_⟩
  (repeat walk_at "mine_step")
  refine ⟨i, ns, 3, rfl, g1.items h1, by omega, ?_⟩
  (repeat walk_at "mine_step")
  have w0 : 0 ≤ cellAt ns 3 % 24 := by omega
  generalize cellAt ns 3 % 24 = way at *
  generalize cellAt ns 3 / 24 = at' at *
  by_cases c : way < 4 ∧ 0 < ws.length
  · obtain ⟨c1, c2⟩ := c
    rw [decide_eq_true c1]
    (repeat walk_at "mine_step")
    refine ⟨_, hw, by simp; omega, ?_⟩
    rw [List.length_map]
    (repeat walk_at "mine_step")
    rw [decide_eq_true (show (0 : Int) < (ws.length : Nat) by omega)]
    (repeat walk_at "mine_step")
    have p0 := Int.emod_nonneg (at' / 7) (show (ws.length : Int) ≠ 0 by omega)
    have p1 := Int.emod_lt_of_pos (at' / 7) (show 0 < (ws.length : Int) by omega)
    obtain ⟨p, hp⟩ := Int.eq_ofNat_of_zero_le p0
    rw [hp] at p1
    have hpw : p < ws.length := by omega
    have ev := vAt hpw
    have a1 := amt_pos ho hpw
    have hbad := fun {σ : Store} {v : V} {qs : List Int} (hq : fitsF ws qs) (h : badNum σ 0 (wAt ws p).amt v) => bad_at hq hpw h
    generalize wAt ws p = w at *
    unfold Wish.v at ev
    have hway : way = 0 ∨ way = 1 ∨ way = 2 ∨ way = 3 := by omega
    rcases hway with rfl | rfl | rfl | rfl
    · (repeat walk_at "mine_step")
      refine ⟨_, _, ws, ps, _, rfl, hw, c2, by omega, ho, hp1, hf, he, fun qs hq hne => ?_⟩
      (repeat walk_at "mine_step")
      refine ⟨_, Grown.refl.snoc.items hw, by simp; omega, ?_⟩
      (repeat walk_at "mine_step")
      refine ⟨_, Grown.refl.snoc.items itemsAt_new, by have := hq.1; simp; omega, ?_⟩
      (repeat walk_at "mine_step")
      refine ⟨_, ws, _, _, rfl, Grown.refl.snoc.items itemsAt_new, hl, itemsAt_new, by have := hq.1; simp; omega, .inr ⟨qs, rfl, hq, hne, ?_⟩⟩
      (repeat walk_at "mine_step")
      exact ret_data g1.snoc.snoc.snoc hK
    · (repeat walk_at "mine_step")
      refine ⟨_, _, ws, ps, _, rfl, hw, c2, by omega, ho, hp1, hf, he, fun qs hq hne => ?_⟩
      have hql := hq.1
      (repeat walk_at "mine_step")
      refine ⟨_, Grown.refl.snoc.items hw, by simp; omega, ?_⟩
      rw [List.length_map]
      (repeat walk_at "mine_step")
      refine zqj (by omega) ?_
      rw [hp]
      (repeat walk_at "mine_step")
      refine zqa (Grown.refl.snoc.items hw) ⟨by omega, by omega⟩ ev ?_
      (repeat walk_at "mine_step")
      obtain ⟨v, hv, hb⟩ := pick9 (σ := τ ++ [Cell.lst (qs.map vInt)]) (a := w.amt) a1 at'
      refine zqa itemsAt_new ⟨by omega, by omega⟩ hv ?_
      (repeat walk_at "mine_step")
      refine zqd (Grown.refl.snoc.snoc.snoc.items itemsAt_new) (by simp; omega) ?_
      rw [slice_to]
      (repeat walk_at "mine_step")
      refine zqi (Grown.refl.snoc.items itemsAt_new) itemsAt_new (by simp; omega) ?_
      (repeat walk_at "mine_step")
      refine zqd (Grown.refl.snoc.snoc.snoc.snoc.snoc.snoc.items itemsAt_new) (by simp; omega) ?_
      rw [show ((p : Nat) : Int) + 1 = ((p + 1 : Nat) : Int) by omega, slice_from]
      (repeat walk_at "mine_step")
      refine zqi (Grown.refl.snoc.items itemsAt_new) itemsAt_new (by simp; omega) ?_
      (repeat walk_at "mine_step")
      refine ⟨_, Grown.refl.snoc.snoc.snoc.snoc.snoc.snoc.snoc.snoc.snoc.items hw, by simp; omega, ?_⟩
      (repeat walk_at "mine_step")
      refine ⟨_, Grown.refl.snoc.items itemsAt_new, by simp; omega, ?_⟩
      (repeat walk_at "mine_step")
      refine ⟨_, ws, _, _, rfl, Grown.refl.snoc.items itemsAt_new, hl, itemsAt_new, by simp; omega, .inl ⟨hbad hq (hb.grown Grown.refl.snoc.snoc.snoc.snoc.snoc.snoc.snoc.snoc), ?_⟩⟩
      (repeat walk_at "mine_step")
      exact ret_data g1.snoc.snoc.snoc.snoc.snoc.snoc.snoc.snoc.snoc.snoc.snoc hK
    · (repeat walk_at "mine_step")
      refine ⟨_, hw, by simp; omega, ?_⟩
      rw [List.length_map]
      (repeat walk_at "mine_step")
      refine zqj (by omega) ?_
      rw [hp]
      (repeat walk_at "mine_step")
      refine zqa hw ⟨by omega, by omega⟩ ev ?_
      (repeat walk_at "mine_step")
      obtain ⟨v, hv, hb⟩ := pick9 (σ := τ) (a := w.amt) a1 at'
      refine zqa itemsAt_new ⟨by omega, by omega⟩ hv ?_
      (repeat walk_at "mine_step")
      refine zqd (Grown.refl.snoc.snoc.snoc.items hp1) (by simp; omega) ?_
      rw [slice_to]
      (repeat walk_at "mine_step")
      refine zqi (Grown.refl.snoc.items itemsAt_new) itemsAt_new (by simp; omega) ?_
      (repeat walk_at "mine_step")
      refine zqd (Grown.refl.snoc.snoc.snoc.snoc.snoc.snoc.items hp1) (by simp; omega) ?_
      rw [show ((p : Nat) : Int) + 1 = ((p + 1 : Nat) : Int) by omega, slice_from]
      (repeat walk_at "mine_step")
      refine zqi (Grown.refl.snoc.items itemsAt_new) itemsAt_new (by simp; omega) ?_
      (repeat walk_at "mine_step")
      refine ⟨_, Grown.refl.snoc.snoc.snoc.snoc.snoc.snoc.snoc.snoc.items hw, by simp; omega, ?_⟩
      (repeat walk_at "mine_step")
      refine ⟨_, Grown.refl.snoc.items itemsAt_new, by simp; omega, ?_⟩
      (repeat walk_at "mine_step")
      refine ⟨_, ws, _, _, rfl, Grown.refl.snoc.items itemsAt_new, hl, itemsAt_new, by simp; omega, .inl ⟨hbad hf (hb.grown Grown.refl.snoc.snoc.snoc.snoc.snoc.snoc.snoc.snoc), ?_⟩⟩
      (repeat walk_at "mine_step")
      exact ret_data g1.snoc.snoc.snoc.snoc.snoc.snoc.snoc.snoc.snoc.snoc hK
    · (repeat walk_at "mine_step")
      refine ⟨_, hw, by simp; omega, ?_⟩
      rw [List.length_map]
      (repeat walk_at "mine_step")
      refine zqj (by omega) ?_
      rw [hp]
      (repeat walk_at "mine_step")
      refine zqa hw ⟨by omega, by omega⟩ ev ?_
      (repeat walk_at "mine_step")
      obtain ⟨v, hv, hb⟩ := pick9 (σ := τ) (a := w.amt) a1 at'
      refine zqa itemsAt_new ⟨by omega, by omega⟩ hv ?_
      (repeat walk_at "mine_step")
      refine zqd (Grown.refl.snoc.snoc.snoc.items hp1) (by simp; omega) ?_
      rw [slice_to]
      (repeat walk_at "mine_step")
      refine zqi (Grown.refl.snoc.items itemsAt_new) itemsAt_new (by simp; omega) ?_
      (repeat walk_at "mine_step")
      refine zqd (Grown.refl.snoc.snoc.snoc.snoc.snoc.snoc.items hp1) (by simp; omega) ?_
      rw [show ((p : Nat) : Int) + 1 = ((p + 1 : Nat) : Int) by omega, slice_from]
      (repeat walk_at "mine_step")
      refine zqi (Grown.refl.snoc.items itemsAt_new) itemsAt_new (by simp; omega) ?_
      (repeat walk_at "mine_step")
      refine ⟨_, itemsAt_new, by simp; omega, ?_⟩
      (repeat walk_at "mine_step")
      generalize hxs : (ps.map vInt).take p ++ [v] ++ (ps.map vInt).drop (p + 1) = xs at *
      have hxl : xs.length = ws.length := by rw [← hxs]; simp; omega
      refine zqd itemsAt_new (by omega) ?_
      rw [show ((xs.length : Nat) : Int) - 1 = ((xs.length - 1 : Nat) : Int) by omega, slice_to]
      (repeat walk_at "mine_step")
      refine ⟨_, Grown.refl.snoc.snoc.snoc.snoc.snoc.snoc.snoc.snoc.snoc.items hw, by simp; omega, ?_⟩
      (repeat walk_at "mine_step")
      refine ⟨_, Grown.refl.snoc.items itemsAt_new, by simp; omega, ?_⟩
      (repeat walk_at "mine_step")
      refine ⟨_, ws, _, _, rfl, Grown.refl.snoc.items itemsAt_new, hl, itemsAt_new, by simp; omega, .inl ⟨.len (by simp; omega), ?_⟩⟩
      (repeat walk_at "mine_step")
      exact ret_data g1.snoc.snoc.snoc.snoc.snoc.snoc.snoc.snoc.snoc.snoc.snoc hK
  · by_cases c1 : way < 4
    all_goals first
      | (rw [decide_eq_false c1])
      | (rw [decide_eq_true c1]
         (repeat walk_at "mine_step")
         refine ⟨_, hw, by simp; omega, ?_⟩
         rw [List.length_map]
         (repeat walk_at "mine_step")
         rw [decide_eq_false (show ¬ (0 : Int) < (ws.length : Nat) by omega)])
    all_goals (repeat walk_at "mine_step")
    all_goals refine ⟨_, hw, by simp; omega, ?_⟩
    all_goals (repeat walk_at "mine_step")
    all_goals refine ⟨_, Grown.refl.snoc.items hp1, by simp; omega, ?_⟩
    all_goals (repeat walk_at "mine_step")
    all_goals refine zqa itemsAt_new (by omega) rfl ?_
    all_goals (repeat walk_at "mine_step")
    all_goals refine zqa itemsAt_new (by omega) rfl ?_
    all_goals (repeat walk_at "mine_step")
    all_goals refine ⟨_, ws, _, _, rfl, Grown.refl.snoc.snoc.items itemsAt_new, hl, Grown.refl.snoc.items itemsAt_new, by simp; omega, .inr ⟨ps, rfl, hf, .inr ⟨he, fun found hd => ?_⟩⟩⟩
    all_goals (repeat walk_at "mine_step")
    all_goals refine ⟨_, _, _, ws, ps, found, rfl, itemsAt_new, Grown.refl.snoc.snoc.snoc.snoc.items hw, hl, Grown.refl.snoc.snoc.snoc.snoc.items hp1, hps, hd, ?_⟩
    all_goals (repeat walk_at "mine_step")
    all_goals refine eq_pair (ws := ws) (ps := ps) (Grown.refl.snoc.snoc.items itemsAt_new) itemsAt_new (Grown.refl.snoc.snoc.snoc.snoc.items itemsAt_new) (Grown.refl.snoc.snoc.snoc.items itemsAt_new) (Grown.refl.snoc.snoc.snoc.snoc.snoc.items hw) (Grown.refl.snoc.snoc.snoc.snoc.snoc.items hp1) ?_
    all_goals (repeat walk_at "mine_step")
    all_goals exact ret_data g1.snoc.snoc.snoc.snoc.snoc hK
end Mine

open PySem PySem.W PyProof.Rows
theorem Mine.hd.tw17311223219408574766 : True := trivial
theorem Mine.hd.tw15616948245753086127 : True := trivial
theorem Mine.hd.tw978945382295711627 : True := trivial
theorem Mine.hd.tw5961118342813265553 : True := trivial
theorem Mine.hd.tw9641152695372364146 : True := trivial
theorem Mine.hd.tw11128854368766332075 : True := trivial
theorem Mine.hd.tw5122569598400620346 : True := trivial
theorem Mine.hd.tw14620637471214046174 : True := trivial
theorem Mine.hd.tw3259873300814134281 : True := trivial
theorem Mine.hd.tw2216850387143573719 : True := trivial
theorem Mine.hd.tw18322514126500204803 : True := trivial
theorem Mine.hd.tw8343274005884668182 : True := trivial
theorem Mine.hd.tw13330244855972007585 : True := trivial
theorem Mine.hd.tw7752767780024739350 : True := trivial
theorem Mine.hd.tw17650839729002327288 : True := trivial
theorem Mine.hd.tw17447410573909459338 : True := trivial
theorem Mine.hd.tw7540655947842036084 : True := trivial
theorem Mine.hd.tw4014540891139286612 : True := trivial
theorem Mine.hd.tw12588582704262371052 : True := trivial
theorem Mine.hd.tw11953376511379268794 : True := trivial
theorem Mine.hd.tw11893437276241958245 : True := trivial
theorem Mine.hd.tw1382963296337349011 : True := trivial
theorem Mine.hd.tw18300207936620678264 : True := trivial
theorem Mine.hd.tw15368132723985388332 : True := trivial
theorem Mine.hd.tw2167537188350426706 : True := trivial
theorem Mine.hd.tw5278057926702712004 : True := trivial
theorem Mine.hd.tw6545403380812914513 : True := trivial
theorem Mine.hd.tw12173100003817136821 : True := trivial
theorem Mine.hd.tw10111801491309104144 : True := trivial
theorem Mine.hd.tw10525666975642140466 : True := trivial
theorem Mine.hd.tw12901994302517312135 : True := trivial
theorem Mine.hd.tw6819123309680001836 : True := trivial
theorem Mine.hd.tw5987830557187376847 : True := trivial
theorem Mine.hd.tw16037735763661986305 : True := trivial
theorem Mine.hd.tw3759623122121258479 : True := trivial
theorem Mine.hd.tw8117029840178788049 : True := trivial
theorem Mine.hd.tw9421340871869096474 : True := trivial
theorem Mine.hd.tw8136687328062707162 : True := trivial
theorem Mine.hd.tw701787995468756871 : True := trivial
theorem Mine.hd.tw7914949630228597729 : True := trivial
theorem Mine.hd.tw16056359734778111409 : True := trivial
theorem Mine.hd.tw9277588360372424766 : True := trivial
theorem Mine.hd.tw5978321128707920903 : True := trivial
theorem Mine.hd.tw6060742912462422084 : True := trivial
theorem Mine.hd.tw13483081372092288885 : True := trivial
theorem Mine.hd.tw2274498078352570744 : True := trivial
theorem Mine.hd.tw11338959395469175845 : True := trivial
theorem Mine.hd.tw1129884963351977449 : True := trivial
theorem Mine.hd.tw10170382586518783626 : True := trivial
theorem Mine.hd.tw15166520500009309586 : True := trivial
theorem Mine.hd.tw17574625026820762457 : True := trivial
theorem Mine.hd.tw16412773359747925120 : True := trivial
theorem Mine.hd.tw10403243965636340961 : True := trivial
theorem Mine.hd.tw4225703048834024713 : True := trivial
theorem Mine.hd.tw7366208706002141716 : True := trivial
theorem Mine.hd.tw4172343393113369950 : True := trivial
theorem Mine.hd.tw16945582573551092051 : True := trivial
theorem Mine.hd.tw4015398097383911347 : True := trivial
theorem Mine.hd.tw16853341256802265648 : True := trivial
theorem Mine.hd.tw15527848837575444561 : True := trivial
theorem Mine.hd.tw13828106393651249627 : True := trivial
theorem Mine.hd.tw10727248033764811480 : True := trivial
theorem Mine.hd.tw4851647983119433812 : True := trivial
theorem Mine.hd.tw10784824025267889561 : True := trivial
theorem Mine.hd.tw4272726840584523970 : True := trivial
theorem Mine.hd.tw12487502673411948298 : True := trivial
theorem Mine.hd.tw13723031510162244379 : True := trivial
theorem Mine.hd.tw15595854959937240912 : True := trivial
theorem Mine.hd.tw6196171512934965099 : True := trivial
theorem Mine.hd.tw17950676927832955104 : True := trivial
theorem Mine.hd.tw10458740792067480800 : True := trivial
theorem Mine.hd.tw3219085151875037572 : True := trivial
theorem Mine.hd.tw17183224562656869120 : True := trivial
theorem Mine.hd.tw1506431575118746342 : True := trivial
theorem Mine.hd.tw12112201142124510154 : True := trivial
theorem Mine.hd.tw17213754286329925777 : True := trivial
theorem Mine.hd.tw8052382678804489345 : True := trivial
theorem Mine.hd.tw16904818350239718627 : True := trivial
theorem Mine.hd.tw402640490398009360 : True := trivial
theorem Mine.hd.tw8716120427605611371 : True := trivial
theorem Mine.hd.tw15837987909243819085 : True := trivial
theorem Mine.hd.tw8960069828448710407 : True := trivial
theorem Mine.hd.tw15642763164714097627 : True := trivial
theorem Mine.hd.tw991583007596301734 : True := trivial
theorem Mine.hd.tw3789350110615891812 : True := trivial
theorem Mine.hd.tw12925607291903140011 : True := trivial
theorem Mine.hd.tw4478166936697009375 : True := trivial
theorem Mine.hd.tw12633595827127266219 : True := trivial
theorem Mine.hd.tw9170477692918782315 : True := trivial
theorem Mine.hd.tw18103342009636024947 : True := trivial
theorem Mine.hd.tw15967140613478806237 : True := trivial
theorem Mine.hd.tw16194383521188589630 : True := trivial
theorem Mine.hd.tw189712035060473897 : True := trivial
theorem Mine.hd.tw11210553801493137410 : True := trivial
theorem Mine.hd.tw1413172679324656950 : True := trivial
theorem Mine.hd.tw9719896912496429819 : True := trivial
theorem Mine.hd.tw5902613922787404954 : True := trivial
theorem Mine.hd.tw1580110805410547442 : True := trivial
theorem Mine.hd.tw12949589719889679912 : True := trivial
theorem Mine.hd.tw10246146449241189800 : True := trivial
theorem Mine.hd.tw5130813555471234732 : True := trivial
theorem Mine.hd.tw15089522573102190283 : True := trivial
theorem Mine.hd.tw9748044761591592747 : True := trivial
theorem Mine.hd.tw11054480109507316185 : True := trivial
theorem Mine.hd.tw11631947586910100387 : True := trivial
theorem Mine.hd.tw2386827423013361158 : True := trivial
theorem Mine.hd.tw15430367267962946696 : True := trivial
theorem Mine.hd.tw16634568088961857937 : True := trivial
theorem Mine.hd.tw13790719812936386609 : True := trivial
theorem Mine.hd.tw6164396464334811476 : True := trivial
theorem Mine.hd.tw2101469004524951375 : True := trivial
theorem Mine.hd.tw15615537253650120727 : True := trivial
theorem Mine.hd.tw464777395874653626 : True := trivial
theorem Mine.hd.tw1013155817946168525 : True := trivial
theorem Mine.hd.tw1011335219593555734 : True := trivial
theorem Mine.hd.tw9434204838461420646 : True := trivial
theorem Mine.hd.tw18093812233618175256 : True := trivial
theorem Mine.hd.tw1222794163293265305 : True := trivial
theorem Mine.hd.tw4360684699965382250 : True := trivial
theorem Mine.hd.tw10360471539772378328 : True := trivial
theorem Mine.hd.tw8735263284916673568 : True := trivial
theorem Mine.hd.tw13267510147771200024 : True := trivial
theorem Mine.hd.tw11032806212648032379 : True := trivial
theorem Mine.hd.tw15042006015671813226 : True := trivial
theorem Mine.hd.tw8112040973832200146 : True := trivial
theorem Mine.hd.tw18343703819029505601 : True := trivial
theorem Mine.hd.tw17681399029576232318 : True := trivial
theorem Mine.hd.tw8959176491354863721 : True := trivial
theorem Mine.hd.tw2930668341846507884 : True := trivial
theorem Mine.hd.tw5511420028821071320 : True := trivial
theorem Mine.hd.tw9741134391959003819 : True := trivial
theorem Mine.hd.tw9995149164486035065 : True := trivial
theorem Mine.hd.tw10949625832625181284 : True := trivial
theorem Mine.hd.tw16722109127936396110 : True := trivial
theorem Mine.hd.tw5657824000916062451 : True := trivial
theorem Mine.hd.tw6555240042291301478 : True := trivial
theorem Mine.hd.tw6411954120941647267 : True := trivial
theorem Mine.hd.tw10792051664901133789 : True := trivial
theorem Mine.hd.tw11220892185045867188 : True := trivial
theorem Mine.hd.tw6785817131721698500 : True := trivial
theorem Mine.hd.tw12070051907170230399 : True := trivial
theorem Mine.hd.tw11232374478483605306 : True := trivial
theorem Mine.hd.tw2442259710966052079 : True := trivial
theorem Mine.hd.tw10614716105012338702 : True := trivial
theorem Mine.hd.tw1097998534492414930 : True := trivial
theorem Mine.hd.tw5036846961687405229 : True := trivial
theorem Mine.hd.tw17903497710992402801 : True := trivial
theorem Mine.hd.tw9345929723534960622 : True := trivial
theorem Mine.hd.tw17054507655720011243 : True := trivial
theorem Mine.hd.tw1760603350576429475 : True := trivial
theorem Mine.hd.tw17975533764899295144 : True := trivial
theorem Mine.hd.tw9759069670290863418 : True := trivial
theorem Mine.hd.tw4402725079659364252 : True := trivial
theorem Mine.hd.tw8458067239894703972 : True := trivial
theorem Mine.hd.tw13770079208771991547 : True := trivial
theorem Mine.hd.tw15790720579355451973 : True := trivial
theorem Mine.hd.tw11319892378374348655 : True := trivial
theorem Mine.hd.tw3452082135128663414 : True := trivial
theorem Mine.hd.tw728884934406724761 : True := trivial
theorem Mine.hd.tw13368278939475635651 : True := trivial
theorem Mine.hd.tw11465210709893060100 : True := trivial
theorem Mine.hd.tw3451239065008710300 : True := trivial
theorem Mine.hd.tw11319097763535126812 : True := trivial
theorem Mine.hd.tw15759970867653108152 : True := trivial
theorem Mine.hd.tw6407587892757256292 : True := trivial
theorem Mine.hd.tw15411387601460861337 : True := trivial
theorem Mine.hd.tw4086058157674990017 : True := trivial
theorem Mine.hd.tw8457440626546761165 : True := trivial
theorem Mine.hd.tw9566141503761928105 : True := trivial
theorem Mine.hd.tw3571134770919094901 : True := trivial
theorem Mine.hd.tw15529170255622000948 : True := trivial
theorem Mine.hd.tw16345102440705955213 : True := trivial
theorem Mine.hd.tw512641396559190090 : True := trivial
theorem Mine.hd.tw12647368939536790636 : True := trivial
theorem Mine.hd.tw16240987189780228909 : True := trivial
theorem Mine.hd.tw3493717111155160527 : True := trivial
theorem Mine.hd.tw13854782639130846226 : True := trivial
theorem Mine.hd.tw22551697357593593 : True := trivial
theorem Mine.hd.tw6291416237084387574 : True := trivial
theorem Mine.hd.tw7355570028127101125 : True := trivial
theorem Mine.hd.tw6767318904944593275 : True := trivial
theorem Mine.hd.tw10601615944963115059 : True := trivial
theorem Mine.hd.tw7296583596125217682 : True := trivial
theorem Mine.hd.tw12271959270614036898 : True := trivial
theorem Mine.hd.tw361874862225718299 : True := trivial
theorem Mine.hd.tw4185656317496899905 : True := trivial
theorem Mine.hd.tw3646829019195819677 : True := trivial
theorem Mine.hd.tw18264374347568628810 : True := trivial
theorem Mine.hd.tw4971549296188076032 : True := trivial
theorem Mine.hd.tw17177331786930743035 : True := trivial
theorem Mine.hd.tw758273949599710562 : True := trivial
theorem Mine.hd.tw7289634563603522867 : True := trivial
theorem Mine.hd.tw17542962492245011380 : True := trivial
theorem Mine.hd.tw17252143746492648416 : True := trivial
theorem Mine.hd.tw5343241284826551009 : True := trivial
theorem Mine.hd.tw11162318198679636149 : True := trivial
theorem Mine.hd.tw4702841417184801058 : True := trivial
theorem Mine.hd.tw18293732401869909652 : True := trivial
theorem Mine.hd.tw11660266114150955751 : True := trivial
theorem Mine.hd.tw16477043939570097188 : True := trivial
theorem Mine.hd.tw3229955645248102723 : True := trivial
theorem Mine.hd.tw5355321495217300903 : True := trivial
theorem Mine.hd.tw10603584201595350602 : True := trivial
theorem Mine.hd.tw9014375795449043846 : True := trivial
theorem Mine.hd.tw2887051446865420828 : True := trivial
theorem Mine.hd.tw5190246844813560578 : True := trivial
theorem Mine.hd.tw14103535550066685397 : True := trivial
theorem Mine.hd.tw26425463804135960 : True := trivial
theorem Mine.hd.tw3350844169311001129 : True := trivial
theorem Mine.hd.tw16432713993328977331 : True := trivial
theorem Mine.hd.tw7028611270464810887 : True := trivial
theorem Mine.hd.tw11026324117731225655 : True := trivial
theorem Mine.hd.tw16064382804478563927 : True := trivial
theorem Mine.hd.tw6394381022753523788 : True := trivial
theorem Mine.hd.tw17062030032774818151 : True := trivial
theorem Mine.hd.tw6305734824756694309 : True := trivial
theorem Mine.hd.tw2708950531961675432 : True := trivial
theorem Mine.hd.tw10424393626065333798 : True := trivial
theorem Mine.hd.tw1439246655266547700 : True := trivial
theorem Mine.hd.tw12023040214023829324 : True := trivial
set_option Elab.async true
set_option maxRecDepth 100000 in
set_option maxHeartbeats 8000000 in
theorem Mine.hd : PySem.Challenge.rw_uf040040_09.Holds := by
  w_on
  o_law
  k_head
  (case hw => w_witness2)
  k_fill
  intro w s₀ s₁ mg mb G Y fa o pm cd doc dV kV ho hd hcd hD hmg hg args vals as hpre hlay hrd hwl hlo
  have KX := kIn_of Y
  refine Ground.open G ?_
  intro T B D TE TW
  wrow_args hpre hlay hrd hwl hlo
  clear hd hcd hD ho Y B D TE TW G
  open Mine in
  refine Mine.law_end (k := 117) (X := ⟨_, w, s₁.heap, mg, mb, fun _ => False⟩) ?_ (by decide) (fun _ q => q) hmg rfl (by assumption) (by assumption) ?_
  · have cx : ∀ bd, CxOk (Cx.mk Challenge.rw_uf040040_09.row.prog w s₁.heap mg mb bd) := fun bd => cx_of_top T
    have cxb : ∀ bd, CxB (Cx.mk Challenge.rw_uf040040_09.row.prog w s₁.heap mg mb bd) := fun bd => cxb_of_top T (by decide +kernel)
    have hfam : ∃ K : W.Frag, Fam famAll K ∧ K.In s₁.heap := ⟨_, fam_of (by kernel_rfl), KX⟩
    have ce : ∀ bd, CxE famAll (Cx.mk Challenge.rw_uf040040_09.row.prog w s₁.heap mg mb bd) := fun bd => ⟨hfam⟩
    have TR := W.topRead_of T
    have kn : ∀ bd c, famAll.contains c = true → Known (Cx.mk Challenge.rw_uf040040_09.row.prog w s₁.heap mg mb bd) c := fun bd c hc => ((ce bd).exc TR hc).elim fun C O => ⟨.ref C, by show (mg c).or (mb c) = _; rw [show mg c = _ from O.bound]; rfl⟩
    have f_names : ∀ bd, ValidF (Cx.mk Challenge.rw_uf040040_09.row.prog w s₁.heap mg mb bd) 2 ("_law_names" : Str) namesT := fun bd => v_names (X := (Cx.mk Challenge.rw_uf040040_09.row.prog w s₁.heap mg mb bd)) (k := 1) (fam := famAll) (cx bd) (valid_isiX (cxb bd) (ce bd) (cx bd)) (kn bd _ (by decide +kernel)) (kn bd _ (by decide +kernel)) (kn bd _ (by decide +kernel)) (kn bd _ (by decide +kernel)) (kn bd _ (by decide +kernel)) (kn bd _ (by decide +kernel)) (⟨_, cxb bd _ (.tail _ (.tail _ (.tail _ (.tail _ (.tail _ (.tail _ (.tail _ (.tail _ (.tail _ (.tail _ (.tail _ (.tail _ (.tail _ (.tail _ (.tail _ (.tail _ (.head _)))))))))))))))))⟩) rfl (isFn_of_top T 12 (by kernel_rfl) rfl rfl rfl rfl)
    have f_num : ∀ bd, ValidF (Cx.mk Challenge.rw_uf040040_09.row.prog w s₁.heap mg mb bd) 101 ("is_number" : Str) numT := fun bd => v_num (X := (Cx.mk Challenge.rw_uf040040_09.row.prog w s₁.heap mg mb bd)) (k := 100) (fam := famAll) (cx bd) (by decide) (cxb bd _ (.tail _ (.tail _ (.tail _ (.tail _ (.tail _ (.tail _ (.tail _ (.tail _ (.tail _ (.tail _ (.tail _ (.tail _ (.tail _ (.tail _ (.head _)))))))))))))))) (valid_isiX (cxb bd) (ce bd) (cx bd)) (⟨_, cxb bd _ (.tail _ (.tail _ (.tail _ (.tail _ (.tail _ (.tail _ (.tail _ (.tail _ (.tail _ (.tail _ (.head _)))))))))))⟩) (⟨_, cxb bd _ (.tail _ (.tail _ (.tail _ (.tail _ (.tail _ (.tail _ (.tail _ (.tail _ (.tail _ (.tail _ (.tail _ (.head _))))))))))))⟩) rfl (isFn_of_top T 0 (by kernel_rfl) rfl rfl rfl rfl)
    have f_need_pieces : ∀ bd, ValidF (Cx.mk Challenge.rw_uf040040_09.row.prog w s₁.heap mg mb bd) 102 ("need_pieces" : Str) need_piecesT := fun bd => v_need_pieces (X := (Cx.mk Challenge.rw_uf040040_09.row.prog w s₁.heap mg mb bd)) (k := 101) (fam := famAll) (fun bd => cx bd) (fun bd => by decide) (fun bd => cxb bd _ (.tail _ (.tail _ (.tail _ (.tail _ (.tail _ (.tail _ (.tail _ (.tail _ (.tail _ (.tail _ (.tail _ (.tail _ (.tail _ (.tail _ (.head _)))))))))))))))) (fun bd => valid_isiX (cxb bd) (ce bd) (cx bd)) (fun bd => valid_len (cxb bd)) (fun bd => (f_num bd).mono (by decide)) (fun bd => ⟨_, cxb bd _ (.tail _ (.tail _ (.tail _ (.tail _ (.tail _ (.tail _ (.tail _ (.tail _ (.head _)))))))))⟩) (fun bd => (ce bd).exc TR (by decide +kernel)) rfl (isFn_of_top T 1 (by kernel_rfl) rfl rfl rfl rfl)
    have f_side_sum : ∀ bd, ValidF (Cx.mk Challenge.rw_uf040040_09.row.prog w s₁.heap mg mb bd) 103 ("side_sum" : Str) side_sumT := fun bd => v_side_sum (X := (Cx.mk Challenge.rw_uf040040_09.row.prog w s₁.heap mg mb bd)) (k := 102) (fam := famAll) (cx bd) (by decide) (cxb bd _ (.tail _ (.tail _ (.tail _ (.tail _ (.tail _ (.tail _ (.tail _ (.tail _ (.tail _ (.tail _ (.tail _ (.tail _ (.tail _ (.tail _ (.head _)))))))))))))))) (valid_sum (by decide) (cxb bd)) (valid_range (cxb bd)) (valid_len (cxb bd)) rfl (isFn_of_top T 2 (by kernel_rfl) rfl rfl rfl rfl)
    have f_even : ∀ bd, ValidF (Cx.mk Challenge.rw_uf040040_09.row.prog w s₁.heap mg mb bd) 104 ("even" : Str) evenT := fun bd => v_even (X := (Cx.mk Challenge.rw_uf040040_09.row.prog w s₁.heap mg mb bd)) (k := 103) (fam := famAll) (cx bd) (by decide) (cxb bd _ (.tail _ (.tail _ (.tail _ (.tail _ (.tail _ (.tail _ (.tail _ (.tail _ (.tail _ (.tail _ (.tail _ (.tail _ (.tail _ (.tail _ (.head _)))))))))))))))) ((f_need_pieces bd).mono (by decide)) ((f_side_sum bd).mono (by decide)) rfl (isFn_of_top T 3 (by kernel_rfl) rfl rfl rfl rfl)
    have f_pairs : ∀ bd, ValidF (Cx.mk Challenge.rw_uf040040_09.row.prog w s₁.heap mg mb bd) 105 ("pairs" : Str) pairsT := fun bd => v_pairs (X := (Cx.mk Challenge.rw_uf040040_09.row.prog w s₁.heap mg mb bd)) (k := 104) (fam := famAll) (cx bd) (by decide) (cxb bd _ (.tail _ (.tail _ (.tail _ (.tail _ (.tail _ (.tail _ (.tail _ (.tail _ (.tail _ (.tail _ (.tail _ (.tail _ (.tail _ (.tail _ (.head _)))))))))))))))) ((f_even bd).mono (by decide)) (valid_list (cxb bd)) (valid_range (cxb bd)) (valid_len (cxb bd)) (valid_min (by decide) (cxb bd)) ((ce bd).exc TR (by decide +kernel)) (valid_append) rfl (isFn_of_top T 4 (by kernel_rfl) rfl rfl rfl rfl)
    have f_cell_at : ∀ bd, ValidF (Cx.mk Challenge.rw_uf040040_09.row.prog w s₁.heap mg mb bd) 106 ("_law_cell_at" : Str) cell_atT := fun bd => v_cell_at (X := (Cx.mk Challenge.rw_uf040040_09.row.prog w s₁.heap mg mb bd)) (k := 105) (fam := famAll) (cx bd) (by decide) (cxb bd _ (.tail _ (.tail _ (.tail _ (.tail _ (.tail _ (.tail _ (.tail _ (.tail _ (.tail _ (.tail _ (.tail _ (.tail _ (.tail _ (.tail _ (.head _)))))))))))))))) (valid_len (cxb bd)) rfl (isFn_of_top T 5 (by kernel_rfl) rfl rfl rfl rfl)
    have f_whole : ∀ bd, ValidF (Cx.mk Challenge.rw_uf040040_09.row.prog w s₁.heap mg mb bd) 107 ("_law_whole" : Str) wholeT := fun bd => v_whole (X := (Cx.mk Challenge.rw_uf040040_09.row.prog w s₁.heap mg mb bd)) (k := 106) (fam := famAll) (cx bd) (by decide) (cxb bd _ (.tail _ (.tail _ (.tail _ (.tail _ (.tail _ (.tail _ (.tail _ (.tail _ (.tail _ (.tail _ (.tail _ (.tail _ (.tail _ (.tail _ (.head _)))))))))))))))) (valid_isiX (cxb bd) (ce bd) (cx bd)) (⟨_, cxb bd _ (.tail _ (.tail _ (.tail _ (.tail _ (.tail _ (.tail _ (.tail _ (.tail _ (.tail _ (.tail _ (.head _)))))))))))⟩) (⟨_, cxb bd _ (.tail _ (.tail _ (.tail _ (.tail _ (.tail _ (.tail _ (.tail _ (.tail _ (.tail _ (.tail _ (.tail _ (.head _))))))))))))⟩) rfl (isFn_of_top T 6 (by kernel_rfl) rfl rfl rfl rfl)
    have f_wish_by : ∀ bd, ValidF (Cx.mk Challenge.rw_uf040040_09.row.prog w s₁.heap mg mb bd) 108 ("_law_wish_by" : Str) wish_byT := fun bd => v_wish_by (X := (Cx.mk Challenge.rw_uf040040_09.row.prog w s₁.heap mg mb bd)) (k := 107) (fam := famAll) (cx bd) (by decide) (cxb bd _ (.tail _ (.tail _ (.tail _ (.tail _ (.tail _ (.tail _ (.tail _ (.tail _ (.tail _ (.tail _ (.tail _ (.tail _ (.tail _ (.tail _ (.head _)))))))))))))))) rfl (isFn_of_top T 7 (by kernel_rfl) rfl rfl rfl rfl)
    have f_wishes_by : ∀ bd, ValidF (Cx.mk Challenge.rw_uf040040_09.row.prog w s₁.heap mg mb bd) 109 ("_law_wishes_by" : Str) wishes_byT := fun bd => v_wishes_by (X := (Cx.mk Challenge.rw_uf040040_09.row.prog w s₁.heap mg mb bd)) (k := 108) (fam := famAll) (cx bd) (by decide) (cxb bd _ (.tail _ (.tail _ (.tail _ (.tail _ (.tail _ (.tail _ (.tail _ (.tail _ (.tail _ (.tail _ (.tail _ (.tail _ (.tail _ (.tail _ (.head _)))))))))))))))) (valid_len (cxb bd)) ((f_wish_by bd).mono (by decide)) ((f_cell_at bd).mono (by decide)) (valid_range (cxb bd)) (valid_append) rfl (isFn_of_top T 8 (by kernel_rfl) rfl rfl rfl rfl)
    have f_pieces_by : ∀ bd, ValidF (Cx.mk Challenge.rw_uf040040_09.row.prog w s₁.heap mg mb bd) 110 ("_law_pieces_by" : Str) pieces_byT := fun bd => v_pieces_by (X := (Cx.mk Challenge.rw_uf040040_09.row.prog w s₁.heap mg mb bd)) (k := 109) (fam := famAll) (cx bd) (by decide) (cxb bd _ (.tail _ (.tail _ (.tail _ (.tail _ (.tail _ (.tail _ (.tail _ (.tail _ (.tail _ (.tail _ (.tail _ (.tail _ (.tail _ (.tail _ (.head _)))))))))))))))) (valid_len (cxb bd)) (valid_range (cxb bd)) (valid_append) rfl (isFn_of_top T 9 (by kernel_rfl) rfl rfl rfl rfl)
    have f_lside : ∀ bd, ValidF (Cx.mk Challenge.rw_uf040040_09.row.prog w s₁.heap mg mb bd) 111 ("_law_side" : Str) lsideT := fun bd => v_lside (X := (Cx.mk Challenge.rw_uf040040_09.row.prog w s₁.heap mg mb bd)) (k := 110) (fam := famAll) (cx bd) (by decide) (cxb bd _ (.tail _ (.tail _ (.tail _ (.tail _ (.tail _ (.tail _ (.tail _ (.tail _ (.tail _ (.tail _ (.tail _ (.tail _ (.tail _ (.tail _ (.head _)))))))))))))))) (valid_sum (by decide) (cxb bd)) (valid_range (cxb bd)) (valid_len (cxb bd)) rfl (isFn_of_top T 10 (by kernel_rfl) rfl rfl rfl rfl)
    have f_evened : ∀ bd, ValidF (Cx.mk Challenge.rw_uf040040_09.row.prog w s₁.heap mg mb bd) 112 ("_law_evened" : Str) evenedT := fun bd => v_evened (X := (Cx.mk Challenge.rw_uf040040_09.row.prog w s₁.heap mg mb bd)) (k := 111) (fam := famAll) (cx bd) (by decide) (cxb bd _ (.tail _ (.tail _ (.tail _ (.tail _ (.tail _ (.tail _ (.tail _ (.tail _ (.tail _ (.tail _ (.tail _ (.tail _ (.tail _ (.tail _ (.head _)))))))))))))))) ((f_lside bd).mono (by decide)) (valid_len (cxb bd)) (valid_range (cxb bd)) (valid_min (by decide) (cxb bd)) (valid_append) rfl (isFn_of_top T 11 (by kernel_rfl) rfl rfl rfl rfl)
    have f_refusal9 : ∀ bd, ValidF (Cx.mk Challenge.rw_uf040040_09.row.prog w s₁.heap mg mb bd) 113 ("_law_refusal" : Str) refusal9T := fun bd => v_refusal9 (X := (Cx.mk Challenge.rw_uf040040_09.row.prog w s₁.heap mg mb bd)) (k := 112) (fam := famAll) (cx bd) (by decide) (cxb bd _ (.tail _ (.tail _ (.tail _ (.tail _ (.tail _ (.tail _ (.tail _ (.tail _ (.tail _ (.tail _ (.tail _ (.tail _ (.tail _ (.tail _ (.head _)))))))))))))))) ((f_pairs bd).mono (by decide)) ((ce bd).exc TR (by decide +kernel)) ((ce bd).exc TR (by decide +kernel)) ((ce bd).exc TR (by decide +kernel)) ((f_names bd).mono (by decide)) (fun c D h1 h2 => (ce bd).kin (cx bd) h1 h2) rfl (isFn_of_top T 13 (by kernel_rfl) rfl rfl rfl rfl)
    have f_shaken : ∀ bd, ValidF (Cx.mk Challenge.rw_uf040040_09.row.prog w s₁.heap mg mb bd) 114 ("_law_shaken" : Str) shakenT := fun bd => v_shaken (X := (Cx.mk Challenge.rw_uf040040_09.row.prog w s₁.heap mg mb bd)) (k := 113) (fam := famAll) (cx bd) (by decide) (cxb bd _ (.tail _ (.tail _ (.tail _ (.tail _ (.tail _ (.tail _ (.tail _ (.tail _ (.tail _ (.tail _ (.tail _ (.tail _ (.tail _ (.tail _ (.head _)))))))))))))))) (valid_list (cxb bd)) (valid_range (cxb bd)) (valid_len (cxb bd)) rfl (isFn_of_top T 14 (by kernel_rfl) rfl rfl rfl rfl)
    have f_pair : ∀ bd, ValidF (Cx.mk Challenge.rw_uf040040_09.row.prog w s₁.heap mg mb bd) 115 ("_law_pair" : Str) pairT := fun bd => v_pair (X := (Cx.mk Challenge.rw_uf040040_09.row.prog w s₁.heap mg mb bd)) (k := 114) (fam := famAll) (cx bd) (by decide) (cxb bd _ (.tail _ (.tail _ (.tail _ (.tail _ (.tail _ (.tail _ (.tail _ (.tail _ (.tail _ (.tail _ (.tail _ (.tail _ (.tail _ (.tail _ (.head _)))))))))))))))) (valid_isiX (cxb bd) (ce bd) (cx bd)) (valid_len (cxb bd)) ((f_whole bd).mono (by decide)) (⟨_, cxb bd _ (.tail _ (.tail _ (.tail _ (.tail _ (.tail _ (.tail _ (.tail _ (.tail _ (.tail _ (.tail _ (.tail _ (.tail _ (.tail _ (.head _))))))))))))))⟩) rfl (isFn_of_top T 15 (by kernel_rfl) rfl rfl rfl rfl)
    have f_walked : ∀ bd, ValidF (Cx.mk Challenge.rw_uf040040_09.row.prog w s₁.heap mg mb bd) 116 ("_law_walked" : Str) walkedT := fun bd => v_walked (X := (Cx.mk Challenge.rw_uf040040_09.row.prog w s₁.heap mg mb bd)) (k := 115) (fam := famAll) (cx bd) (by decide) (cxb bd _ (.tail _ (.tail _ (.tail _ (.tail _ (.tail _ (.tail _ (.tail _ (.tail _ (.tail _ (.tail _ (.tail _ (.tail _ (.tail _ (.tail _ (.head _)))))))))))))))) (valid_isiX (cxb bd) (ce bd) (cx bd)) (valid_list (cxb bd)) (valid_range (cxb bd)) (valid_len (cxb bd)) ((f_pair bd).mono (by decide)) (⟨_, cxb bd _ (.tail _ (.tail _ (.tail _ (.tail _ (.tail _ (.tail _ (.tail _ (.tail _ (.head _)))))))))⟩) rfl (isFn_of_top T 16 (by kernel_rfl) rfl rfl rfl rfl)
    have f_goal : ∀ bd, ValidF (Cx.mk Challenge.rw_uf040040_09.row.prog w s₁.heap mg mb bd) 117 ("law" : Str) goalT := fun bd => v_goal (X := (Cx.mk Challenge.rw_uf040040_09.row.prog w s₁.heap mg mb bd)) (k := 116) (fam := famAll) (cx bd) (by decide) (cxb bd _ (.tail _ (.tail _ (.tail _ (.tail _ (.tail _ (.tail _ (.tail _ (.tail _ (.tail _ (.tail _ (.tail _ (.tail _ (.tail _ (.tail _ (.head _)))))))))))))))) ((f_wishes_by bd).mono (by decide)) ((f_cell_at bd).mono (by decide)) ((f_pieces_by bd).mono (by decide)) ((f_evened bd).mono (by decide)) (valid_len (cxb bd)) ((f_shaken bd).mono (by decide)) (valid_list (cxb bd)) ((f_refusal9 bd).mono (by decide)) ((f_pairs bd).mono (by decide)) ((f_walked bd).mono (by decide)) rfl (isFn_of_top T 17 (by kernel_rfl) rfl rfl rfl rfl)
    exact f_goal (fun _ => False)
  · intro h' tk hk
    exact GoodW.toG ⟨.inl ⟨_, .bool true, [], rfl, fun _ => rfl, .bool _, (by first | kernel_rfl | (with_unfolding_all rfl)), fun _ => ⟨List.nodup_nil, fun a ha => by cases ha⟩⟩, hk, rfl, hg⟩
theorem PySem.Challenge.cw_uf040040_09_holds : PySem.Challenge.rw_uf040040_09.Holds :=
  Mine.hd
