import PyProof.Rows.All
import PyProof.CompFree
import PyProof.Cells
import PyProof.Rows.Top
import PyProof.StationsW
import PyProof.WalkInts
import PyProof.WalksMore
import PyProof.RangeFor
import PyProof.CompMap
import PyProof.CodeObj
import PyProof.SliceMore
import PyProof.EqLayable
import PyProof.ListOps
import PyProof.Rows.StrTemp
import PyProof.Rows.RuleB_floordiv
import PyProof.Rows.RuleB_mod
import PyProof.Rows.RuleB_mul
import PyProof.Rows.RuleU_int
import PyProof.Rows.StrRules
import PyProof.Rows.RuleC_int
import PyProof.Rows.Nodes
import PyProof.Rows.IntRules
import PyProof.Rows.EqDataRows
import PyProof.Rows.InDataRows
import PyProof.Rows.SeqCalls
import PyProof.Calls
import PyProof.Rows.Own
import PyProof.ForRange
import PyProof.Rules3
import PyProof.Dict
import PyProof.TupleIter
import PyProof.Rows.TupSub
import PyProof.CallRoads
import PyProof.ZipIter
import PyProof.ForAny
import PyProof.Raises
import PyProof.IsiPairs
import PyProof.IsiHeapPairs
import PyProof.IsiNone
import PyProof.ListCopy
import PyProof.Methods
import PyProof.StrOps
import PyProof.Rows.SumAny
import PyProof.Rows.RuleN_abs
import PyProof.FactsAll.list_0
import PyProof.Rows.Tup
import Wide.Well
import Wide.OfPy
import Wide.Bridge
import Wide.BridgeG
import PyProof.Rows.Walk
import PyProof.Rows.TupMore
import KE.KSortAsk
import KE.KLam
import KE.KSortTup
import KE.KSortKey
import KE.KNest
import Wide.All
import OpenK.AllK
import Wide.FinOn
import PySem.Challenge.RW_uf040040_13

set_option Elab.async false
set_option autoImplicit false
set_option linter.unusedVariables false
namespace Mine
open PySem PySem.Spec PySem.Calls PyProof.Rows
inductive V where
  | d (x : PyData)
  | ref (i : Nat)
  | exc (c : Str)
  | glob (x : Str)
  | rng (lo hi : Int)
  | zip (i j : Nat)
inductive Cell where
  | lst (xs : List V)
  | rol (xs : List V)
  | dct
  | tab (P : Addr) (q : Str)
noncomputable def Cell.items : Cell → List V
  | .lst xs => xs
  | .rol xs => xs
  | .dct => []
  | .tab _ _ => []
noncomputable def Cell.list? : Cell → Option (List V)
  | .lst xs => some xs
  | .rol xs => some xs
  | .dct => none
  | .tab _ _ => none
noncomputable def Cell.owned : Cell → Bool
  | .lst _ => true
  | .rol _ => false
  | .dct => true
  | .tab _ _ => true
noncomputable def CodeOk (h : Heap) (q : Str) (c : Value) : Prop := ∃ a o vs t, c = .ref a ∧ h.get? a = some o ∧ o.cls = .type "code" ∧ o.data = .fields vs ∧ vs[1]? = some (.str q t)
noncomputable def Cell.Shape (c : Cell) (h : Heap) (a : Addr) (o : Obj) (items : List Value) : Prop :=
  match c with
  | .tab P q => a = P ∧ ∃ ps, o = { cls := .none, data := .fields ps } ∧ TriplesOk ps.toList ∧ ∀ pos cv, codeAmong pos ps.toList = some cv → CodeOk h q cv
  | .dct => o.cls = .type "dict" ∧ ∃ es n, o.data = .dict es n
  | _ => ∃ n, o = { cls := .type "list", data := .seq items.toArray n }
noncomputable abbrev Store := List Cell
noncomputable abbrev Loc := Str → Option V
structure Cx where
  prog : Program
  w : World
  B : Heap
  mg : Str → Option Value
  mb : Str → Option Value
  bad : Addr → Prop
noncomputable def Cx.hide (X : Cx) (b : Addr → Prop) : Cx := { X with bad := b }
structure CxOk (X : Cx) : Prop where
  g : X.B.Ns mainGlobals X.mg
  b : X.B.Ns builtinsNs X.mb
  nolimit : X.B.NoLimit
noncomputable def Cx.val (X : Cx) (x : Str) : Option Value := (X.mg x).or (X.mb x)
mutual
/-- flat data that reads no hidden tuple -/
inductive RdC (bad : Addr → Prop) (h : Heap) : Value → PyData → Prop
  | none : RdC bad h .none .none
  | bool (b : Bool) : RdC bad h (.bool b) (.bool b)
  | int (i : Int) (t : Tok) : RdC bad h (.int i t) (.int i)
  | str (x : Str) (t : Tok) : RdC bad h (.str x t) (.str x)
  | tuple {a o vs n xs} : h.get? a = some o → o.cls = .type "tuple" → o.data = .seq vs n → ¬ bad a → RdsC bad h vs.toList xs → RdC bad h (.ref a) (.tuple xs)
inductive RdsC (bad : Addr → Prop) (h : Heap) : List Value → List PyData → Prop
  | nil : RdsC bad h [] []
  | cons {v d vs ds} : RdC bad h v d → RdsC bad h vs ds → RdsC bad h (v :: vs) (d :: ds)
end
mutual
theorem RdC.reads {bad : Addr → Prop} {h : Heap} : ∀ {v : Value} {d : PyData}, RdC bad h v d → Reads h v d []
  | _, _, .none => .none
  | _, _, .bool b => .bool b
  | _, _, .int i t => .int i t
  | _, _, .str x t => .str x t
  | _, _, .tuple h1 h2 h3 _ h4 => .tuple h1 h2 h3 h4.reads
theorem RdsC.reads {bad : Addr → Prop} {h : Heap} : ∀ {vs : List Value} {ds : List PyData}, RdsC bad h vs ds → ReadsAll h vs ds []
  | _, _, .nil => .nil
  | _, _, .cons h1 h2 => .cons h1.reads h2.reads
end
mutual
/-- from heap to heap, from hidden ones to others -/
theorem RdC.to {bad bad' : Addr → Prop} {h h' : Heap} (hb : ∀ b o, h.get? b = some o → bad' b → bad b) (hk : ∀ b o, h.get? b = some o → o.cls = .type "tuple" → (∃ vs n, o.data = .seq vs n) → ¬ bad b → h'.get? b = some o) : ∀ {v : Value} {d : PyData}, RdC bad h v d → RdC bad' h' v d
  | _, _, .none => .none
  | _, _, .bool b => .bool b
  | _, _, .int i t => .int i t
  | _, _, .str x t => .str x t
  | _, _, .tuple h1 h2 h3 hn h4 => .tuple (hk _ _ h1 h2 ⟨_, _, h3⟩ hn) h2 h3 (fun q => hn (hb _ _ h1 q)) (h4.to hb hk)
theorem RdsC.to {bad bad' : Addr → Prop} {h h' : Heap} (hb : ∀ b o, h.get? b = some o → bad' b → bad b) (hk : ∀ b o, h.get? b = some o → o.cls = .type "tuple" → (∃ vs n, o.data = .seq vs n) → ¬ bad b → h'.get? b = some o) : ∀ {vs : List Value} {ds : List PyData}, RdsC bad h vs ds → RdsC bad' h' vs ds
  | _, _, .nil => .nil
  | _, _, .cons h1 h2 => .cons (h1.to hb hk) (h2.to hb hk)
end
theorem RdsC.get {bad : Addr → Prop} {h : Heap} : ∀ {vs : List Value} {xs : List PyData}, RdsC bad h vs xs → ∀ {j : Nat} {x : PyData}, xs[j]? = some x → ∃ v, vs[j]? = some v ∧ RdC bad h v x
  | _, _, .nil, j, x, e => by simp at e
  | _, _, .cons h1 h2, j, x, e => by
    cases j with
    | zero => simp at e; subst e; exact ⟨_, rfl, h1⟩
    | succ j => simpa using h2.get (by simpa using e)
theorem rdc_of_all {bad : Addr → Prop} {h' : Heap} {v : Value} {d : PyData} (h : ∀ h, Reads h v d []) : RdC bad h' v d := by
  have r := h {}
  cases r with
  | none => exact .none
  | bool b => exact .bool b
  | int i t => exact .int i t
  | str x t => exact .str x t
  | tuple h1 => exact absurd (Heap.lt_size h1) (Nat.not_lt_zero _)
inductive Has (X : Cx) (n : Nat) (ρ : Nat → Addr) (h : Heap) : V → Value → Prop
  | d {x v} : RdC X.bad h v x → Has X n ρ h (.d x) v
  | ref {i} : i < n → Has X n ρ h (.ref i) (.ref (ρ i))
  | exc {c C a o fs} : X.mg c = some (.ref C) → h.get? a = some o → o.cls = .ref C → o.data = .fields fs → o.dict = none → Has X n ρ h (.exc c) (.ref a)
  | glob {x v} : X.val x = some v → Has X n ρ h (.glob x) v
  | rng {lo hi a t u v} : IsRange h a lo hi 1 t u v → Builtin.Range.small lo hi 1 = true → Has X n ρ h (.rng lo hi) (.ref a)
inductive HasAll (X : Cx) (n : Nat) (ρ : Nat → Addr) (h : Heap) : List V → List Value → Prop
  | nil : HasAll X n ρ h [] []
  | cons {v vs a as} : Has X n ρ h v a → HasAll X n ρ h vs as → HasAll X n ρ h (v :: vs) (a :: as)
noncomputable def CellAt (X : Cx) (n : Nat) (ρ : Nat → Addr) (h : Heap) (a : Addr) (c : Cell) : Prop :=
  ∃ (o : Obj) (items : List Value), h.get? a = some o ∧ c.Shape h a o items ∧ HasAll X n ρ h c.items items
theorem Cell.Shape.is {c : Cell} {h : Heap} {a : Addr} {o : Obj} {items : List Value} (s : c.Shape h a o items) : o.cls = .type "list" ∧ (∃ vs n, o.data = .seq vs n) ∨ (o.cls = .type "dict" ∧ ∃ es n, o.data = .dict es n) ∨ o.cls = .none ∧ ∃ ps, o.data = .fields ps := by
  cases c with
  | dct => exact .inr (.inl s)
  | tab P q => obtain ⟨_, ps, rfl, _⟩ := s; exact .inr (.inr ⟨rfl, _, rfl⟩)
  | lst xs => obtain ⟨n, rfl⟩ := s; exact .inl ⟨rfl, _, _, rfl⟩
  | rol xs => obtain ⟨n, rfl⟩ := s; exact .inl ⟨rfl, _, _, rfl⟩
noncomputable def NoDict (o : Obj) : Prop := ∀ es n, o.data ≠ .dict es n
noncomputable def iterTypes : List String := ["list_iterator", "tuple_iterator", "range_iterator", "zip", "str_ascii_iterator", "str_iterator"]
structure Still (o : Obj) : Prop where
  cls : o.cls ≠ .type "list"
  noiter : ∀ T ∈ iterTypes, o.cls ≠ .type T
  nodict : NoDict o
  nocell : ∀ v, o.data ≠ .cell v
  notab : o.cls ≠ .none
theorem Still.tuple {o : Obj} (hc : o.cls = .type "tuple") {vs n} (hd : o.data = .seq vs n) : Still o :=
  ⟨by rw [hc]; decide, by rw [hc]; decide, fun es n' e => by rw [hd] at e; (exact nomatch e), (fun v e => by rw [hd] at e; (exact nomatch e)), by rw [hc]; decide⟩
theorem Still.fields {o : Obj} (hc : o.cls ≠ .type "list") (hn : o.cls ≠ .none) (hi : ∀ T ∈ iterTypes, o.cls ≠ .type T) {vs} (hd : o.data = .fields vs) : Still o :=
  ⟨hc, hi, (fun es n' e => by rw [hd] at e; (exact nomatch e)), (fun v e => by rw [hd] at e; (exact nomatch e)), hn⟩
theorem CodeOk.mono {h h' : Heap} {q : Str} {c : Value} (x : CodeOk h q c) (hk : ∀ b o, h.get? b = some o → Still o → h'.get? b = some o) : CodeOk h' q c :=
  let ⟨a, o, vs, t, e, g, hc, hd, r⟩ := x
  ⟨a, o, vs, t, e, hk _ _ g (.fields (by rw [hc]; decide) (by rw [hc]; decide) (by rw [hc]; decide) hd), hc, hd, r⟩
theorem Cell.Shape.mono {c : Cell} {h h' : Heap} {a : Addr} {o : Obj} {items : List Value} (s : c.Shape h a o items) (hk : ∀ b o, h.get? b = some o → Still o → h'.get? b = some o) : c.Shape h' a o items := by
  cases c with
  | tab P q => obtain ⟨e, ps, h1, h2, h3⟩ := s; exact ⟨e, ps, h1, h2, fun pos cv hc => (h3 pos cv hc).mono hk⟩
  | lst xs => exact s
  | rol xs => exact s
  | dct => exact s
structure Rep (X : Cx) (ρ : Nat → Addr) (σ : Store) (h : Heap) : Prop where
  base : ∀ b o, X.B.get? b = some o → h.get? b = some o
  cell : ∀ i c, σ[i]? = some c → CellAt X σ.length ρ h (ρ i) c
  own : ∀ i c, σ[i]? = some c → c.owned = true → X.B.get? (ρ i) = none
  inj : ∀ i j, i < σ.length → j < σ.length → ρ i = ρ j → i = j
  bad : ∀ b, X.bad b → ∃ o vs n, h.get? b = some o ∧ o.cls = .type "tuple" ∧ o.data = .seq vs n
structure Go (W : Addr → Prop) (σ : Store) (ρ : Nat → Addr) (h : Heap) (σ' : Store) (ρ' : Nat → Addr) (h' : Heap) : Prop where
  size : h.objs.size ≤ h'.objs.size
  keep : ∀ b o, h.get? b = some o → ¬ W b → (∀ i, i < σ.length → b ≠ ρ i) → ∃ sl, h'.get? b = some { o with slots := sl } ∧ (NoDict o → sl = o.slots)
  dicts : ∀ b o es n, h.get? b = some o → o.data = .dict es n → ∃ o' es' n', h'.get? b = some o' ∧ o'.data = .dict es' n'
  len : σ.length ≤ σ'.length
  ext : ∀ i, i < σ.length → ρ' i = ρ i
  new : ∀ i, σ.length ≤ i → i < σ'.length → h.objs.size ≤ ρ' i
noncomputable abbrev Nowhere : Addr → Prop := fun _ => False
theorem Go.refl (W : Addr → Prop) (σ : Store) (ρ : Nat → Addr) (h : Heap) : Go W σ ρ h σ ρ h :=
  ⟨Nat.le_refl _, fun b o e _ _ => ⟨o.slots, e, fun _ => rfl⟩, fun b o es n e d => ⟨o, es, n, e, d⟩, Nat.le_refl _, fun _ _ => rfl, fun _ h1 h2 => absurd h2 (Nat.not_lt.mpr h1)⟩
theorem Go.trans {W : Addr → Prop} {σ₁ σ₂ σ₃ : Store} {ρ₁ ρ₂ ρ₃ : Nat → Addr} {h₁ h₂ h₃ : Heap} (x : Go W σ₁ ρ₁ h₁ σ₂ ρ₂ h₂) (y : Go W σ₂ ρ₂ h₂ σ₃ ρ₃ h₃) : Go W σ₁ ρ₁ h₁ σ₃ ρ₃ h₃ where
  size := Nat.le_trans x.size y.size
  keep := fun b o e hw hb => by
    obtain ⟨sl, e1, f1⟩ := x.keep b o e hw hb
    have hb2 : ∀ i, i < σ₂.length → b ≠ ρ₂ i := fun i hi => by
      by_cases hlt : i < σ₁.length
      · rw [x.ext i hlt]; exact hb i hlt
      · exact Nat.ne_of_lt (Nat.lt_of_lt_of_le (Heap.lt_size e) (x.new i (Nat.not_lt.mp hlt) hi))
    obtain ⟨sl', e2, f2⟩ := y.keep b _ e1 hw hb2
    exact ⟨sl', e2, fun hc => (f2 hc).trans (f1 hc)⟩
  dicts := fun b o es n e d => by
    obtain ⟨o', es', n', e', d'⟩ := x.dicts b o es n e d
    exact y.dicts b o' es' n' e' d'
  len := Nat.le_trans x.len y.len
  ext := fun i hi => (y.ext i (Nat.lt_of_lt_of_le hi x.len)).trans (x.ext i hi)
  new := fun i h1 h2 => by
    by_cases hlt : i < σ₂.length
    · rw [y.ext i hlt]; exact x.new i h1 hlt
    · exact Nat.le_trans x.size (y.new i (Nat.not_lt.mp hlt) h2)
theorem Go.weaken {W W' : Addr → Prop} {σ σ' : Store} {ρ ρ' : Nat → Addr} {h h' : Heap} (x : Go W σ ρ h σ' ρ' h') (hw : ∀ b o, h.get? b = some o → W b → W' b) : Go W' σ ρ h σ' ρ' h' :=
  { x with keep := fun b o e hn hb => x.keep b o e (fun q => hn (hw b o e q)) hb }
section
variable {X : Cx} {n n' : Nat} {ρ ρ' : Nat → Addr} {h h' : Heap} {σ σ' : Store} {W : Addr → Prop}
theorem HasAll.length {vs : List V} {as : List Value} (x : HasAll X n ρ h vs as) : vs.length = as.length := by
  induction x with
  | nil => rfl
  | cons _ _ ih => simp [ih]
theorem HasAll.get {vs : List V} {as : List Value} (x : HasAll X n ρ h vs as) {k : Nat} {v : V} (hv : vs[k]? = some v) : ∃ a, as[k]? = some a ∧ Has X n ρ h v a := by
  induction x generalizing k with
  | nil => simp at hv
  | cons h1 _ ih =>
    cases k with
    | zero => simp at hv; subst hv; exact ⟨_, rfl, h1⟩
    | succ k => simpa using ih (by simpa using hv)
theorem HasAll.append {vs ws : List V} {as bs : List Value} (x : HasAll X n ρ h vs as) (y : HasAll X n ρ h ws bs) : HasAll X n ρ h (vs ++ ws) (as ++ bs) := by
  induction x with
  | nil => exact y
  | cons h1 _ ih => exact .cons h1 ih
theorem HasAll.one {v : V} {a : Value} (x : Has X n ρ h v a) : HasAll X n ρ h [v] [a] := .cons x .nil
theorem Has.mono {v : V} {a : Value} (x : Has X n ρ h v a) (hn : n ≤ n') (hρ : ∀ i, i < n → ρ' i = ρ i)
    (hk : ∀ b o, h.get? b = some o → Still o → h'.get? b = some o) : Has X n' ρ' h' v a := by
  cases x with
  | d r => exact .d (r.to (fun _ _ _ q => q) fun b o e hc hs _ => let ⟨_, _, hd⟩ := hs; hk b o e (.tuple hc hd))
  | ref hi => rw [← hρ _ hi]; exact .ref (Nat.lt_of_lt_of_le hi hn)
  | exc h1 h2 h3 h4 h5 => exact .exc h1 (hk _ _ h2 (.fields (by rw [h3]; exact fun e => nomatch e) (by rw [h3]; exact fun e => nomatch e) (by rw [h3]; exact fun _ _ e => nomatch e) h4)) h3 h4 h5
  | glob h1 => exact .glob h1
  | rng h1 h2 => exact .rng (hk _ _ h1 (.fields (show Value.type "range" ≠ .type "list" by decide) (show Value.type "range" ≠ .none by decide) (show ∀ T ∈ iterTypes, Value.type "range" ≠ .type T by decide) rfl)) h2
theorem HasAll.mono {vs : List V} {as : List Value} (x : HasAll X n ρ h vs as) (hn : n ≤ n') (hρ : ∀ i, i < n → ρ' i = ρ i)
    (hk : ∀ b o, h.get? b = some o → Still o → h'.get? b = some o) : HasAll X n' ρ' h' vs as := by
  induction x with
  | nil => exact .nil
  | cons h1 _ ih => exact .cons (h1.mono hn hρ hk) ih
theorem Rep.notCell (R : Rep X ρ σ h) {b : Addr} {o : Obj} (e : h.get? b = some o) (ho : o.cls ≠ .type "list") (hn : o.cls ≠ .none) (hd : NoDict o) : ∀ i, i < σ.length → b ≠ ρ i := by
  rintro i hi rfl
  obtain ⟨oc, items, hp, sh, _⟩ := R.cell i _ (List.getElem?_eq_getElem hi)
  rw [hp] at e
  cases e
  rcases sh.is with ⟨q, _⟩ | ⟨_, es, n, q⟩ | ⟨q, _⟩
  · exact ho q
  · exact hd _ _ q
  · exact hn q
theorem Rep.badKeep (R : Rep X ρ σ h) (hk : ∀ b o, h.get? b = some o → Still o → h'.get? b = some o) : ∀ b, X.bad b → ∃ o vs n, h'.get? b = some o ∧ o.cls = .type "tuple" ∧ o.data = .seq vs n := fun b q =>
  let ⟨o, vs, n, e, c, d⟩ := R.bad b q
  ⟨o, vs, n, hk b o e (.tuple c d), c, d⟩
noncomputable def WOk (W : Addr → Prop) (h : Heap) : Prop := ∀ b o, W b → h.get? b = some o → (∃ es n, o.data = .dict es n) ∨ ∃ v, o.data = .cell v
theorem WOk.nowhere : WOk Nowhere h := fun _ _ x => x.elim
theorem Go.still (R : Rep X ρ σ h) (g : Go W σ ρ h σ' ρ' h') (w : WOk W h) : ∀ b o, h.get? b = some o → Still o → h'.get? b = some o := by
  intro b o e hs
  have hnw : ¬ W b := fun q => by
    rcases w b o q e with ⟨es, n, hd⟩ | ⟨v, hd⟩
    · exact hs.nodict es n hd
    · exact hs.nocell v hd
  obtain ⟨sl, e1, f1⟩ := g.keep b o e hnw (R.notCell e hs.cls hs.notab hs.nodict)
  rw [f1 hs.nodict] at e1
  exact e1
theorem Has.go {v : V} {a : Value} (x : Has X σ.length ρ h v a) (R : Rep X ρ σ h) (g : Go W σ ρ h σ' ρ' h') (w : WOk W h) : Has X σ'.length ρ' h' v a :=
  x.mono g.len g.ext (g.still R w)
theorem HasAll.go {vs : List V} {as : List Value} (x : HasAll X σ.length ρ h vs as) (R : Rep X ρ σ h) (g : Go W σ ρ h σ' ρ' h') (w : WOk W h) : HasAll X σ'.length ρ' h' vs as :=
  x.mono g.len g.ext (g.still R w)
end
noncomputable def Wr (env : Env) : Addr → Prop := fun b => b = env.locals ∨ ∃ x, env.cells.lookup x = some b
noncomputable abbrev Kinds := Str → Option NameKind
structure KindsOk (sc : Kinds) (env : Env) : Prop where
  loc : ∀ x, sc x = some .local → env.kindOf x = some .local
  cell : ∀ x, sc x = some .cell → env.kindOf x = some .cell
  free : ∀ x, sc x = some .free → env.kindOf x = some .cell ∨ env.kindOf x = some .free
  glob : ∀ x, sc x = some .globalImplicit → env.kindOf x = some .globalImplicit
  debug : sc ("__debug__" : Str) = none
  classdict : sc ("__classdict__" : Str) = none
structure Frm (X : Cx) (env : Env) (sc : Kinds) (m : Loc) (n : Nat) (ρ : Nat → Addr) (h : Heap) : Prop where
  kind : env.scope.kind = .function
  glob : env.globals = mainGlobals
  bi : env.builtins = builtinsNs
  kinds : KindsOk sc env
  ns : ∃ mm, h.Ns env.locals mm ∧ ∀ x v, sc x = some .local → m x = some v → ∃ a, mm x = some a ∧ Has X n ρ h v a
  cells : ∀ x, sc x = some .cell ∨ sc x = some .free → ∃ c ov, env.cells.lookup x = some c ∧ h.IsCell c ov ∧ ∀ v, m x = some v → ∃ a, ov = some a ∧ Has X n ρ h v a
  isCells : ∀ x c, env.cells.lookup x = some c → ∃ ov, h.IsCell c ov
  sepL : ∀ i, i < n → ρ i ≠ env.locals
  newL : X.B.get? env.locals = none
  newC : ∀ x c, env.cells.lookup x = some c → X.B.get? c = none
  apart : ∀ x y c, env.cells.lookup x = some c → env.cells.lookup y = some c → x = y
theorem Frm.wok {X : Cx} {env : Env} {sc : Kinds} {m : Loc} {n : Nat} {ρ : Nat → Addr} {h : Heap} (F : Frm X env sc m n ρ h) : WOk (Wr env) h := by
  rintro b o (rfl | ⟨x, hx⟩) e
  · obtain ⟨mm, ⟨o', es, ep, e', d, _⟩, _⟩ := F.ns
    rw [e] at e'; cases e'
    exact .inl ⟨es, ep, d⟩
  · obtain ⟨ov, o', e', d⟩ := F.isCells x b hx
    rw [e] at e'; cases e'
    exact .inr ⟨ov, d⟩
theorem Frm.go {X : Cx} {env : Env} {sc : Kinds} {m : Loc} {σ σ' : Store} {ρ ρ' : Nat → Addr} {h h' : Heap} (F : Frm X env sc m σ.length ρ h) (R : Rep X ρ σ h) (g : Go Nowhere σ ρ h σ' ρ' h') : Frm X env sc m σ'.length ρ' h' := by
  have hnc : ∀ c ov, h.IsCell c ov → h'.IsCell c ov := fun c ov ⟨o, e, d⟩ => by
    have hne : ∀ i, i < σ.length → c ≠ ρ i := by
      rintro i hi rfl
      obtain ⟨oc, items, hp, sh, _⟩ := R.cell i _ (List.getElem?_eq_getElem hi)
      rw [hp] at e; cases e
      rcases sh.is with ⟨_, _, _, q⟩ | ⟨_, _, _, q⟩ | ⟨_, _, q⟩ <;> (rw [q] at d; cases d)
    obtain ⟨sl, e1, _⟩ := g.keep c o e (fun x => x) hne
    exact ⟨_, e1, d⟩
  refine { F with ns := ?_, cells := ?_, isCells := ?_, sepL := ?_ }
  · obtain ⟨mm, ⟨o, es, ep, e, d, r⟩, hm⟩ := F.ns
    obtain ⟨sl, e1, _⟩ := g.keep _ o e (fun x => x) (fun i hi q => F.sepL i hi q.symm)
    exact ⟨mm, ⟨_, es, ep, e1, d, r⟩, fun x v h1 h2 => let ⟨a, h3, h4⟩ := hm x v h1 h2; ⟨a, h3, h4.go R g .nowhere⟩⟩
  · intro x hx
    obtain ⟨c, ov, h1, h2, h3⟩ := F.cells x hx
    exact ⟨c, ov, h1, hnc c ov h2, fun v hv => let ⟨a, h4, h5⟩ := h3 v hv; ⟨a, h4, h5.go R g .nowhere⟩⟩
  · intro x c hx
    obtain ⟨ov, h1⟩ := F.isCells x c hx
    exact ⟨ov, hnc c ov h1⟩
  · intro i hi
    by_cases hlt : i < σ.length
    · rw [g.ext i hlt]; exact F.sepL i hlt
    · obtain ⟨mm, ⟨o, es, ep, e, d, r⟩, hm⟩ := F.ns
      exact Nat.ne_of_gt (Nat.lt_of_lt_of_le (Heap.lt_size e) (g.new i (Nat.not_lt.mp hlt) hi))
noncomputable def Frames (X : Cx) (h : Heap) (l : List Env) : Prop := ∀ env ∈ l, env.scope.kind ≠ .module ∧ ∃ L o es n, env.frame = some L ∧ X.B.get? L = none ∧ h.get? L = some o ∧ o.data = .dict es n
theorem Frames.go {X : Cx} {W : Addr → Prop} {σ σ' : Store} {ρ ρ' : Nat → Addr} {h h' : Heap} {l : List Env} (F : Frames X h l) (g : Go W σ ρ h σ' ρ' h') : Frames X h' l := by
  intro env he
  obtain ⟨h1, L, o, es, n, h2, h3, h4, h5⟩ := F env he
  obtain ⟨o', es', n', h6, h7⟩ := g.dicts L o es n h4 h5
  exact ⟨h1, L, o', es', n', h2, h3, h6, h7⟩
structure Ar (X : Cx) (k : Nat) (A : Around) (env : Env) (h : Heap) : Prop where
  handled : 100 ≤ k → A.handled = none
  depth : A.depth + k < recursionLimit
  units : A.units + 20 * k + 200 < cLine
  stack : ∃ fenv outer, A.frames = some (fenv :: outer) ∧ fenv.frame = env.frame ∧ Frames X h (fenv :: outer)
structure ArC (X : Cx) (k : Nat) (A : Around) (h : Heap) : Prop where
  handled : 100 ≤ k → A.handled = none
  depth : A.depth + k < recursionLimit
  units : A.units + 20 * k + 200 < cLine
  stack : ∃ l, A.frames = some l ∧ Frames X h l
theorem Ar.c {X : Cx} {k : Nat} {A : Around} {env : Env} {h : Heap} (a : Ar X k A env h) : ArC X k A h :=
  ⟨a.handled, a.depth, a.units, let ⟨f, o, h1, _, h3⟩ := a.stack; ⟨f :: o, h1, h3⟩⟩
theorem Ar.go {X : Cx} {k : Nat} {A : Around} {env : Env} {W : Addr → Prop} {σ σ' : Store} {ρ ρ' : Nat → Addr} {h h' : Heap} (a : Ar X k A env h) (g : Go W σ ρ h σ' ρ' h') : Ar X k A env h' :=
  { a with stack := let ⟨f, o, h1, h2, h3⟩ := a.stack; ⟨f, o, h1, h2, h3.go g⟩ }
theorem Ar.reframe {X : Cx} {k : Nat} {A : Around} {env env' : Env} {h : Heap} (a : Ar X k A env h) (e : env'.frame = env.frame) : Ar X k A env' h :=
  { a with stack := let ⟨f, o, h1, h2, h3⟩ := a.stack; ⟨f, o, h1, h2.trans e.symm, h3⟩ }
structure Flies (X : Cx) (c : Str) (fr : Option Addr) (sz : Nat) (e : Addr) (h : Heap) : Prop where
  ex : ∃ C oe vs, X.mg c = some (.ref C) ∧ h.get? e = some oe ∧ oe.cls = .ref C ∧ (oe.data = .fields vs ∧ oe.dict = none) ∧ 1 < vs.size ∧
    (vs[1]? = some .none ∨ ∃ T oT ts, vs[1]? = some (.ref T) ∧ T ≠ e ∧ sz ≤ T ∧ h.get? T = some oT ∧ oT.data = .fields ts ∧ oT.cls = .type "traceback" ∧ 3 < ts.size ∧ (ts[3]? = some .none ∨ ∃ F, fr = some F ∧ ts[3]? = some (rawInt F)))
  new : sz ≤ e
theorem Flies.sz {X : Cx} {c : Str} {fr : Option Addr} {a b : Nat} {e : Addr} {h : Heap} (x : Flies X c fr a e h) (hab : b ≤ a) : Flies X c fr b e h := by
  obtain ⟨⟨C, oe, vs, h1, h2, h3, h4, h5, h6⟩, hn⟩ := x
  refine ⟨⟨C, oe, vs, h1, h2, h3, h4, h5, h6.imp id ?_⟩, Nat.le_trans hab hn⟩
  rintro ⟨T, oT, ts, a1, a2, a3, r⟩
  exact ⟨T, oT, ts, a1, a2, Nat.le_trans hab a3, r⟩
theorem Flies.any {X : Cx} {c : Str} {fr : Option Addr} {a : Nat} {e : Addr} {h : Heap} (x : Flies X c none a e h) : Flies X c fr a e h := by
  obtain ⟨⟨C, oe, vs, h1, h2, h3, h4, h5, h6⟩, hn⟩ := x
  refine ⟨⟨C, oe, vs, h1, h2, h3, h4, h5, h6.imp id ?_⟩, hn⟩
  rintro ⟨T, oT, ts, a1, a2, a3, a4, a5, a6, a7, a8⟩
  exact ⟨T, oT, ts, a1, a2, a3, a4, a5, a6, a7, a8.imp id fun ⟨F, q, _⟩ => nomatch q⟩
inductive OutE where
  | val (v : V) (σ : Store)
  | exn (c : Str) (σ : Store)
inductive OutS where
  | next (m : Loc) (σ : Store)
  | ret (v : V) (σ : Store)
  | exn (c : Str) (m : Loc) (σ : Store)
noncomputable def OkE (X : Cx) (σ : Store) (ρ : Nat → Addr) (s : Shared) (K : OutE → Prop) (Q : Value → Shared → Prop) : Prop :=
  ∀ v σ' ρ' a h' tk, K (.val v σ') → Rep X ρ' σ' h' → Go Nowhere σ ρ s.heap σ' ρ' h' → Has X σ'.length ρ' h' v a → Q a { s with heap := h', toks := tk }
noncomputable def ErE (X : Cx) (fr : Option Addr) (σ : Store) (ρ : Nat → Addr) (s : Shared) (K : OutE → Prop) (E : Value → Shared → Prop) : Prop :=
  ∀ c σ' ρ' e h' tk, K (.exn c σ') → Rep X ρ' σ' h' → Go Nowhere σ ρ s.heap σ' ρ' h' → Flies X c fr s.heap.objs.size e h' → E (.ref e) { s with heap := h', toks := tk }
noncomputable def SE (X : Cx) (k : Nat) (env : Env) (sc : Kinds) (t : Sem Value) (m : Loc) (σ : Store) (K : OutE → Prop) : Prop :=
  ∀ (A : Around) (s : Shared) (ρ : Nat → Addr) (Q E : Value → Shared → Prop), Ar X k A env s.heap → Rep X ρ σ s.heap → Frm X env sc m σ.length ρ s.heap →
    OkE X σ ρ s K Q → ErE X env.frame σ ρ s K E → wpAny (model X.prog X.w) A t Q E s
noncomputable def SS (X : Cx) (k : Nat) (env : Env) (sc : Kinds) (t : Sem Flow) (m : Loc) (σ : Store) (K : OutS → Prop) : Prop :=
  ∀ (A : Around) (s : Shared) (ρ : Nat → Addr) (Q : Flow → Shared → Prop) (E : Value → Shared → Prop), Ar X k A env s.heap → Rep X ρ σ s.heap → Frm X env sc m σ.length ρ s.heap →
    (∀ m' σ' ρ' h' tk, K (.next m' σ') → Rep X ρ' σ' h' → Go (Wr env) σ ρ s.heap σ' ρ' h' → Frm X env sc m' σ'.length ρ' h' → Q .next { s with heap := h', toks := tk }) →
    (∀ v σ' ρ' a h' tk, K (.ret v σ') → Rep X ρ' σ' h' → Go (Wr env) σ ρ s.heap σ' ρ' h' → (∃ m', Frm X env sc m' σ'.length ρ' h') → Has X σ'.length ρ' h' v a → Q (.ret a) { s with heap := h', toks := tk }) →
    (∀ c m' σ' ρ' e h' tk, K (.exn c m' σ') → Rep X ρ' σ' h' → Go (Wr env) σ ρ s.heap σ' ρ' h' → Frm X env sc m' σ'.length ρ' h' → Flies X c env.frame s.heap.objs.size e h' → E (.ref e) { s with heap := h', toks := tk }) →
    wpAny (model X.prog X.w) A t Q E s
noncomputable def thenE (f : V → Store → Prop) : OutE → Prop
  | .val v σ => f v σ
  | .exn _ _ => False
noncomputable def noK : OutE → Prop := fun _ => False
theorem ErE.no {X : Cx} {fr : Option Addr} {σ : Store} {ρ : Nat → Addr} {s : Shared} {E : Value → Shared → Prop} : ErE X fr σ ρ s noK E := fun _ _ _ _ _ _ q => False.elim q
section
variable {X : Cx} {k : Nat} {env : Env} {sc : Kinds} {m : Loc} {σ : Store} {K : OutE → Prop}
theorem ErE.after {fr : Option Addr} {σ₁ : Store} {ρ ρ₁ : Nat → Addr} {s : Shared} {h₁ : Heap} {tk : Nat} {E : Value → Shared → Prop} (x : ErE X fr σ ρ s K E) (g : Go Nowhere σ ρ s.heap σ₁ ρ₁ h₁) : ErE X fr σ₁ ρ₁ { s with heap := h₁, toks := tk } K E :=
  fun c σ' ρ' e h' tk' hK R' g' fl => x c σ' ρ' e h' tk' hK R' (g.trans g') (fl.sz g.size)
theorem OkE.after {σ₁ : Store} {ρ ρ₁ : Nat → Addr} {s : Shared} {h₁ : Heap} {tk : Nat} {Q : Value → Shared → Prop} (x : OkE X σ ρ s K Q) (g : Go Nowhere σ ρ s.heap σ₁ ρ₁ h₁) : OkE X σ₁ ρ₁ { s with heap := h₁, toks := tk } K Q :=
  fun v σ' ρ' a h' tk' hK R' g' hv => x v σ' ρ' a h' tk' hK R' (g.trans g') hv
theorem ErE.none {fr : Option Addr} {ρ : Nat → Addr} {s : Shared} {E : Value → Shared → Prop} (x : ErE X fr σ ρ s K E) : ErE X none σ ρ s K E :=
  fun c σ' ρ' e h' tk' hK R' g' fl => x c σ' ρ' e h' tk' hK R' g' fl.any
theorem SE.andThen {t : Sem Value} {f : V → Store → Prop} {A : Around} {s : Shared} {ρ : Nat → Addr} {Q E : Value → Shared → Prop} (x : SE X k env sc t m σ (thenE f))
    (ar : Ar X k A env s.heap) (R : Rep X ρ σ s.heap) (F : Frm X env sc m σ.length ρ s.heap) (er : ErE X env.frame σ ρ s K E)
    (h : ∀ v σ₁ ρ₁ a h₁ tk, f v σ₁ → Rep X ρ₁ σ₁ h₁ → Go Nowhere σ ρ s.heap σ₁ ρ₁ h₁ → Has X σ₁.length ρ₁ h₁ v a → Ar X k A env h₁ → Frm X env sc m σ₁.length ρ₁ h₁ → Q a { s with heap := h₁, toks := tk }) :
    wpAny (model X.prog X.w) A t Q E s :=
  x A s ρ Q E ar R F (fun v σ₁ ρ₁ a h₁ tk hf R₁ g hv => h v σ₁ ρ₁ a h₁ tk hf R₁ g hv (ar.go g) (F.go R g)) fun _ _ _ _ _ _ q => q.elim
end
end Mine

set_option Elab.async false
set_option autoImplicit false
set_option linter.unusedVariables false
namespace Mine
open PySem PySem.Spec PySem.Calls PyProof.Rows
noncomputable abbrev Contract := List V → Store → (OutE → Prop) → Prop
noncomputable def itemsAt (σ : Store) (i : Nat) : Option (List V) := (σ[i]?).bind Cell.list?
noncomputable def dataOf (σ : Store) : Nat → V → Option PyData
  | _, .d x => some x
  | n + 1, .ref i => (itemsAt σ i).bind fun xs => (xs.mapM (dataOf σ n)).map .list
  | _, _ => none
noncomputable def truthW : V → Option Bool
  | .d (.bool b) => some b
  | _ => none
noncomputable def sliceV {α : Type} (xs : List α) (lo hi : Option Int) : List α := (xs.drop (lo.elim 0 (clipAt xs.length))).take (hi.elim xs.length (clipAt xs.length) - lo.elim 0 (clipAt xs.length))
noncomputable def srcNext (σ : Store) (src : V) (k : Nat) : Option (Option V) :=
  match src with
  | .ref l => (itemsAt σ l).map fun xs => xs[k]?
  | .d (.tuple xs) => some (xs[k]?.map V.d)
  | .rng lo hi => some (if lo + k < hi then some (.d (.int (lo + k))) else none)
  | _ => none
noncomputable def upd (m : Loc) (x : Str) (v : V) : Loc := fun y => if y = x then some v else m y
noncomputable def compLoc (names : List (Str × NameKind)) (m : Loc) : Loc := fun y => match names.lookup y with
  | some .free => m y
  | _ => none
noncomputable def kindsOf (names : List (Str × NameKind)) : Kinds := fun y => names.lookup y
noncomputable def noStar : Expr → Bool
  | .Starred _ _ => false
  | _ => true
noncomputable def noSet : Expr → Bool
  | .Set _ _ _ => false
  | _ => true
noncomputable def compOkB (sc : Kinds) (scope : Scope) (x : Str) : Bool :=
  scope.kind == .function && scope.names.lookup x == some .local &&
    scope.names.all (fun y => y.2 != .cell && (y.2 != .local || scope.names.lookup y.1 == some .local) && (y.2 != .free || sc y.1 == some .cell || sc y.1 == some .free)) &&
    (scope.names.lookup ("__debug__" : Str)).isNone && (scope.names.lookup ("__classdict__" : Str)).isNone
noncomputable def noSuper : Expr → Bool
  | .Call (.Name _ _) [] [] _ => false
  | _ => true
noncomputable def noExn (f : V → Store → Prop) : OutE → Prop
  | .val v σ => f v σ
  | .exn _ _ => False
noncomputable def loopS (K : OutS → Prop) (J : Loc → Store → Prop) : OutS → Prop
  | .next m σ => J m σ
  | .ret v σ => K (.ret v σ)
  | .exn c m σ => K (.exn c m σ)
noncomputable def loopN (K : OutS → Prop) (J : Loc → Store → Prop) : OutS → Prop
  | .next m σ => J m σ
  | .ret v σ => K (.ret v σ)
  | .exn _ _ _ => False
noncomputable def noComp : Expr → Bool
  | .ListComp _ _ _ _ => false
  | .SetComp _ _ _ _ => false
  | .DictComp _ _ _ _ _ => false
  | _ => true
noncomputable def noSlice : Expr → Bool
  | .Slice _ _ _ _ => false
  | _ => true
noncomputable def bindable (sc : Kinds) (x : Str) : Prop := sc x = some .local ∨ sc x = some .cell
end Mine

set_option Elab.async false
set_option autoImplicit false
set_option linter.unusedVariables false
namespace Mine
open PySem PySem.Spec PySem.Calls PyProof.Rows
section
variable {X : Cx} {n : Nat} {ρ : Nat → Addr} {h : Heap} {v : Value}
theorem Has.int_inv {i : Int} (x : Has X n ρ h (.d (.int i)) v) : ∃ t, v = .int i t := by
  cases x with | d r => cases r; exact ⟨_, rfl⟩
theorem Has.str_inv {i : Str} (x : Has X n ρ h (.d (.str i)) v) : ∃ t, v = .str i t := by
  cases x with | d r => cases r; exact ⟨_, rfl⟩
theorem Has.bool_inv {i : Bool} (x : Has X n ρ h (.d (.bool i)) v) : v = .bool i := by
  cases x with | d r => cases r; rfl
theorem Has.ref_inv {i : Nat} (x : Has X n ρ h (.ref i) v) : i < n ∧ v = .ref (ρ i) := by
  cases x with | ref hi => exact ⟨hi, rfl⟩
theorem Has.d_rdc {x : PyData} (y : Has X n ρ h (.d x) v) : RdC X.bad h v x := by
  cases y with | d r => exact r
theorem Has.d_inv {x : PyData} (y : Has X n ρ h (.d x) v) : Reads h v x [] := y.d_rdc.reads
theorem Has.glob_inv {x : Str} (y : Has X n ρ h (.glob x) v) : X.val x = some v := by
  cases y with | glob r => exact r
theorem Has.ofInt (i : Int) (t : Tok) : Has X n ρ h (.d (.int i)) (.int i t) := .d (.int i t)
theorem Has.ofBool (b : Bool) : Has X n ρ h (.d (.bool b)) (.bool b) := .d (.bool b)
theorem Has.ofStr (x : Str) (t : Tok) : Has X n ρ h (.d (.str x)) (.str x t) := .d (.str x t)
theorem Has.ofNone : Has X n ρ h (.d .none) .none := .d .none
end
section
variable {X : Cx} {σ : Store} {ρ : Nat → Addr} {h : Heap}
theorem Rep.newCell (R : Rep X ρ σ h) {cc : Cell} {oo : Obj} {items : List Value} (hsh : cc.Shape (h.push oo) h.objs.size oo items) (hv : HasAll X σ.length ρ h cc.items items) :
    let ρ' := fun i => if i = σ.length then h.objs.size else ρ i
    Rep X ρ' (σ ++ [cc]) (h.push oo) ∧ Go Nowhere σ ρ h (σ ++ [cc]) ρ' (h.push oo) := by
  intro ρ'
  have hρ : ∀ i, i < σ.length → ρ' i = ρ i := fun i hi => if_neg (Nat.ne_of_lt hi)
  have hk : ∀ b o, h.get? b = some o → (h.push oo).get? b = some o := fun b o e => Heap.get?_push_of_some _ e
  have g : Go Nowhere σ ρ h (σ ++ [cc]) ρ' (h.push oo) :=
    ⟨by rw [Heap.size_push]; exact Nat.le_succ _, fun b o e _ _ => ⟨o.slots, hk b o e, fun _ => rfl⟩, fun b o es n e d => ⟨o, es, n, hk b o e, d⟩, by simp, hρ, fun i h1 h2 => by
      simp only [List.length_append, List.length_cons, List.length_nil] at h2
      have : i = σ.length := by (first | lia | omega)
      subst this
      show h.objs.size ≤ (if σ.length = σ.length then h.objs.size else _)
      rw [if_pos rfl]; exact Nat.le_refl _⟩
  refine ⟨⟨fun b o e => hk b o (R.base b o e), ?_, ?_, ?_, R.badKeep fun b o e _ => hk b o e⟩, g⟩
  · intro i c hc
    by_cases hi : i < σ.length
    · rw [List.getElem?_append_left hi] at hc
      obtain ⟨oc, its, hp, sh, ha⟩ := R.cell i c hc
      rw [hρ i hi]
      exact ⟨oc, its, hk _ _ hp, sh.mono fun b o e _ => hk b o e, ha.go R g .nowhere⟩
    · have hi' : i = σ.length := by
        have := (List.getElem?_eq_some_iff.mp hc).1
        simp at this; (first | lia | omega)
      subst hi'
      simp at hc; subst hc
      show CellAt X _ ρ' _ (if σ.length = σ.length then h.objs.size else _) _
      rw [if_pos rfl]
      exact ⟨oo, items, Heap.get?_push_size _ (by obtain ⟨c1, c2, c3, c4⟩ := oo; rcases hsh.is with ⟨_, _, _, q⟩ | ⟨_, _, _, q⟩ | ⟨_, _, q⟩ <;> (cases q; rfl)), hsh, hv.go R g .nowhere⟩
  · intro i c hc ho
    by_cases hi : i < σ.length
    · rw [List.getElem?_append_left hi] at hc; rw [hρ i hi]; exact R.own i c hc ho
    · have hi' : i = σ.length := by
        have := (List.getElem?_eq_some_iff.mp hc).1
        simp at this; (first | lia | omega)
      subst hi'
      show X.B.get? (if σ.length = σ.length then h.objs.size else _) = none
      rw [if_pos rfl]
      cases e : X.B.get? h.objs.size with
      | none => rfl
      | some o => exact absurd (Heap.lt_size (R.base _ _ e)) (Nat.lt_irrefl _)
  · intro i j hi hj e
    simp only [List.length_append, List.length_cons, List.length_nil] at hi hj
    have lt : ∀ i, i < σ.length → ρ i < h.objs.size := fun i hi => by
      obtain ⟨_, _, hp, _, _⟩ := R.cell i _ (List.getElem?_eq_getElem hi)
      exact Heap.lt_size hp
    by_cases h1 : i = σ.length <;> by_cases h2 : j = σ.length
    · (first | lia | omega)
    · have e' : h.objs.size = ρ j := by simpa [ρ', h1, h2] using e
      have hh := lt j (by (first | lia | omega))
      rw [← e'] at hh; exact absurd hh (Nat.lt_irrefl _)
    · have e' : ρ i = h.objs.size := by simpa [ρ', h1, h2] using e
      have hh := lt i (by (first | lia | omega))
      rw [e'] at hh; exact absurd hh (Nat.lt_irrefl _)
    · exact R.inj i j (by (first | lia | omega)) (by (first | lia | omega)) (by simpa [ρ', h1, h2] using e)
theorem Rep.newList (R : Rep X ρ σ h) {vs : List V} {items : List Value} {n : Nat} (hv : HasAll X σ.length ρ h vs items) :
    let ρ' := fun i => if i = σ.length then h.objs.size else ρ i
    Rep X ρ' (σ ++ [.lst vs]) (h.push { cls := .type "list", data := .seq items.toArray n }) ∧ Go Nowhere σ ρ h (σ ++ [.lst vs]) ρ' (h.push { cls := .type "list", data := .seq items.toArray n }) :=
  R.newCell (cc := .lst vs) ⟨n, rfl⟩ hv
theorem Rep.list {i : Nat} {xs : List V} (R : Rep X ρ σ h) (e : itemsAt σ i = some xs) : i < σ.length ∧ ∃ items : List Value, (∃ n, h.get? (ρ i) = some { cls := .type "list", data := .seq items.toArray n }) ∧ HasAll X σ.length ρ h xs items := by
  unfold itemsAt at e
  obtain ⟨c, hc, e⟩ := Option.bind_eq_some_iff.mp e
  obtain ⟨oc, its, hp, sh, ha⟩ := R.cell i c hc
  cases c with
  | dct => cases e
  | tab P q => cases e
  | lst ys => cases e; obtain ⟨n, rfl⟩ := sh; exact ⟨(List.getElem?_eq_some_iff.mp hc).1, its, ⟨n, hp⟩, ha⟩
  | rol ys => cases e; obtain ⟨n, rfl⟩ := sh; exact ⟨(List.getElem?_eq_some_iff.mp hc).1, its, ⟨n, hp⟩, ha⟩
end
section
variable {X : Cx} {σ : Store} {ρ : Nat → Addr} {h h' : Heap}
theorem Rep.setCell (R : Rep X ρ σ h) {l : Nat} {xs ys : List V} {items : List Value} {n : Nat} (hl : σ[l]? = some (.lst xs)) (hsb : Heap.SameBut (ρ l) h h') (hp : h'.get? (ρ l) = some { cls := .type "list", data := .seq items.toArray n })
    (hv : HasAll X σ.length ρ h ys items) : Rep X ρ (σ.set l (.lst ys)) h' ∧ Go Nowhere σ ρ h (σ.set l (.lst ys)) ρ h' := by
  have hlt := (List.getElem?_eq_some_iff.mp hl).1
  have hnS : ∀ b o, h.get? b = some o → Still o → h'.get? b = some o := fun b o e hs => by
    refine (hsb.2 b fun q => ?_).trans e
    subst q
    obtain ⟨_, its, hp0, ⟨k, rfl⟩, _⟩ := R.cell l _ hl
    rw [hp0] at e; cases e
    exact hs.cls rfl
  have g : Go Nowhere σ ρ h (σ.set l (.lst ys)) ρ h' := ⟨Nat.le_of_eq hsb.1.symm, fun b o e _ hb => ⟨o.slots, (hsb.2 b (hb l hlt)).trans e, fun _ => rfl⟩, fun b o es n e d => by
      by_cases hb : b = ρ l
      · subst hb
        obtain ⟨_, its, hp0, ⟨k, rfl⟩, _⟩ := R.cell l _ hl
        rw [hp0] at e; cases e; cases d
      · exact ⟨o, es, n, (hsb.2 b hb).trans e, d⟩, by simp, fun _ _ => rfl, fun i h1 h2 => by simp at h2; (first | lia | omega)⟩
  refine ⟨⟨fun b o e => ?_, fun i c hc => ?_, fun i c hc ho => ?_, fun i j hi hj q => R.inj i j (by simpa using hi) (by simpa using hj) q, R.badKeep hnS⟩, g⟩
  · refine (hsb.2 b fun q => ?_).trans (R.base b o e)
    subst q
    rw [R.own l _ hl rfl] at e; cases e
  · rw [List.length_set]
    by_cases hi : l = i
    · subst hi
      rw [List.getElem?_set_self hlt] at hc; cases hc
      exact ⟨_, items, hp, ⟨n, rfl⟩, hv.mono (Nat.le_refl _) (fun _ _ => rfl) hnS⟩
    · rw [List.getElem?_set_ne hi] at hc
      obtain ⟨oc, its, hp0, sh, ha⟩ := R.cell i c hc
      have hne : ρ i ≠ ρ l := fun q => hi (R.inj i l (List.getElem?_eq_some_iff.mp hc).1 hlt q).symm
      exact ⟨oc, its, (hsb.2 _ hne).trans hp0, sh.mono hnS, ha.mono (Nat.le_refl _) (fun _ _ => rfl) hnS⟩
  · by_cases hi : l = i
    · subst hi; exact R.own l _ hl rfl
    · rw [List.getElem?_set_ne hi] at hc; exact R.own i c hc ho
theorem HasAll.set {n : Nat} {vs : List V} {as : List Value} (x : HasAll X n ρ h vs as) {v : V} {a : Value} (hv : Has X n ρ h v a) (k : Nat) : HasAll X n ρ h (vs.set k v) (as.set k a) := by
  induction x generalizing k with
  | nil => exact .nil
  | cons h1 h2 ih =>
    cases k with
    | zero => exact .cons hv h2
    | succ k => exact .cons h1 (ih k)
theorem HasAll.drop {n : Nat} {vs : List V} {as : List Value} (x : HasAll X n ρ h vs as) (k : Nat) : HasAll X n ρ h (vs.drop k) (as.drop k) := by
  induction x generalizing k with
  | nil => simp; exact .nil
  | cons h1 h2 ih =>
    cases k with
    | zero => exact .cons h1 h2
    | succ k => simpa using ih k
theorem HasAll.take {n : Nat} {vs : List V} {as : List Value} (x : HasAll X n ρ h vs as) (k : Nat) : HasAll X n ρ h (vs.take k) (as.take k) := by
  induction x generalizing k with
  | nil => simp; exact .nil
  | cons h1 h2 ih =>
    cases k with
    | zero => exact .nil
    | succ k => exact .cons h1 (ih k)
theorem HasAll.slice {n : Nat} {vs : List V} {as : List Value} (x : HasAll X n ρ h vs as) (lo hi : Option Int) : HasAll X n ρ h (sliceV vs lo hi) (sliceV as lo hi) := by
  unfold sliceV
  rw [x.length]
  exact (x.drop _).take _
end
section
variable {X : Cx} {k : Nat} {A : Around} {env : Env} {σ : Store} {ρ : Nat → Addr} {s : Shared} {K : OutE → Prop} {Q E : Value → Shared → Prop}
theorem OkE.same (ok : OkE X σ ρ s K Q) (R : Rep X ρ σ s.heap) {v : V} {a : Value} (hK : K (.val v σ)) (hv : Has X σ.length ρ s.heap v a) (tk : Nat) : Q a { s with toks := tk } :=
  ok v σ ρ a s.heap tk hK R (.refl ..) hv
theorem truth_sound {a : V} {va : Value} {b : Bool} {Q : Bool → Shared → Prop} (hb : truthW a = some b) (ha : Has X σ.length ρ s.heap a va) (h : Q b s) : wpAny (model X.prog X.w) A (truthy va) Q E s := by
  unfold truthW at hb
  split at hb
  · cases hb; cases ha.bool_inv; exact wpAny_truthy_bool h
  · cases hb
mutual
theorem readsAll_of {X : Cx} {σ : Store} {ρ : Nat → Addr} {h : Heap} (R : Rep X ρ σ h) (n : Nat) : ∀ (vs : List V) (as : List Value) (xs : List PyData), HasAll X σ.length ρ h vs as → vs.mapM (dataOf σ n) = some xs → ∃ bs, ReadsAll h as xs bs := by
  intro vs as xs hv
  induction hv generalizing xs with
  | nil => intro e; simp at e; subst e; exact ⟨_, .nil⟩
  | cons h1 h2 ih =>
    intro e
    simp only [List.mapM_cons, Option.bind_eq_bind, Option.bind_eq_some_iff] at e
    obtain ⟨y, e1, ys, e2, e3⟩ := e
    cases e3
    obtain ⟨bs1, r1⟩ := reads_of R n _ _ _ h1 e1
    obtain ⟨bs2, r2⟩ := ih _ e2
    exact ⟨_, .cons r1 r2⟩
termination_by (n, 1)
theorem reads_of {X : Cx} {σ : Store} {ρ : Nat → Addr} {h : Heap} (R : Rep X ρ σ h) (n : Nat) (v : V) (a : Value) (x : PyData) (hv : Has X σ.length ρ h v a) (e : dataOf σ n v = some x) : ∃ bs, Reads h a x bs := by
  unfold dataOf at e
  split at e
  · cases e; exact ⟨_, hv.d_inv⟩
  · rename_i n i
    obtain ⟨xs, e1, e2⟩ := Option.bind_eq_some_iff.mp e
    obtain ⟨ds, e3, e4⟩ := Option.map_eq_some_iff.mp e2
    subst e4
    obtain ⟨_, rfl⟩ := hv.ref_inv
    obtain ⟨_, its, ⟨k, ho⟩, ha⟩ := R.list e1
    obtain ⟨bs, r⟩ := readsAll_of R n xs its ds ha e3
    exact ⟨_, .list ho rfl rfl (by simpa using r)⟩
  · cases e
termination_by (n, 0)
end
theorem setItem_plain {prog : Program} {w : World} {E : Value → Shared → Prop} {l : Addr} {items : Array Value} {n : Nat} {j : Int} {t : Tok} {v : Value} {Q : Unit → Shared → Prop} (hl : s.heap.get? l = some { cls := .type "list", data := .seq items n })
    (h0 : 0 ≤ j) (hfit : j < 2 ^ 63) (hn : j < items.size)
    (hQ : ∀ h' n', h'.get? l = some { cls := .type "list", data := .seq (items.setIfInBounds j.toNat v) n' } → Heap.SameBut l s.heap h' → Q () { s with heap := h' }) :
    wpAny (model prog w) A (setItem (.ref l) (.int j t) v) Q E s := by
  have hL : s.heap.IsList l items := ⟨_, hl, rfl, n, rfl⟩
  unfold setItem
  try with_reducible refine wpAny_holding ?_
  first | refine wpAny_bind (wpAny_pure ?_) | skip
  refine wpAny_bind (wpAny_sequenceKey hL.typeIs (by decide) ?_)
  refine wpAny_bind (wpAny_callSpecial?_slot (name := Str.ofString "__setitem__") hL.typeIs slot_list_setitem
    (wpAny_call_entry slot_list_setitem hL.typeIs entry_list_setitem ?_ (args_list_setitem _ _ _)))
  show wpAny _ _ (Builtin.List.listSubscript? (.int j t) >>= _) _ _ s
  refine wpAny_bind (wpAny_listSubscript_int (fitsIndex_of h0 hfit) ?_)
  clear hfit
  obtain ⟨i, rfl⟩ := Int.eq_ofNat_of_zero_le h0
  have hj : i < items.size := by (first | lia | omega)
  have hx' : items[i]? = some items[i] := Array.getElem?_eq_getElem hj
  show wpAny _ _ ((seqItemAt l i >>= fun r => pure (r.map (i, ·))) >>= _) _ _ s
  refine wpAny_bind (wpAny_bind (wpAny_seqItemAt hl rfl (wpAny_pure ?_)))
  rw [hx']
  show wpAny _ _ (setSeqItemAt l i v >>= _) _ _ s
  have hfin : (s.heap.update l (Obj.mapSeq (·.setIfInBounds i v))).get? l = some { cls := .type "list", data := .seq (items.setIfInBounds i v) _ } := Heap.get?_update_self _ hl rfl
  refine wpAny_bind (wpAny_setSeqItemAt hl rfl ?_)
  first
    | exact wpAny_bind (wpAny_pure (wpAny_pure ⟨.none, rfl, wpAny_pure (hQ _ _ hfin (Heap.SameBut.update ..))⟩))
    | exact wpAny_pure ⟨.none, rfl, wpAny_pure (hQ _ _ hfin (Heap.SameBut.update ..))⟩
theorem subscripted_plain {slice : Expr} (hs : ∀ a b c p, slice ≠ .Slice a b c p) (o i : Value) : subscripted slice false o i = operate [o, i] (getItem o i) := by
  unfold subscripted
  split
  · exact absurd rfl (hs _ _ _ _)
  · rename_i h; cases h
  · rfl
noncomputable def binW (X : Cx) (op : Operator) (a b : V) (σ : Store) (K : OutE → Prop) : Prop := ∀ (A : Around) (s : Shared) (ρ : Nat → Addr) (va vb : Value) (Q E : Value → Shared → Prop), Rep X ρ σ s.heap → Has X σ.length ρ s.heap a va → Has X σ.length ρ s.heap b vb → OkE X σ ρ s K Q → wpAny (model X.prog X.w) A (binaryOp op va vb) Q E s
noncomputable def unW (X : Cx) (op : UnaryOp) (a : V) (σ : Store) (K : OutE → Prop) : Prop := ∀ (A : Around) (s : Shared) (ρ : Nat → Addr) (va : Value) (Q E : Value → Shared → Prop), Rep X ρ σ s.heap → Has X σ.length ρ s.heap a va → OkE X σ ρ s K Q → wpAny (model X.prog X.w) A (unaryOp op va) Q E s
noncomputable def cmpW (X : Cx) (op : CmpOp) (a b : V) (σ : Store) (f : Bool → Prop) : Prop := ∀ (A : Around) (s : Shared) (ρ : Nat → Addr) (va vb : Value) (Q E : Value → Shared → Prop), A.units + 200 < cLine → Rep X ρ σ s.heap → Has X σ.length ρ s.heap a va → Has X σ.length ρ s.heap b vb → (∀ r, f r → Q (.bool r) s) → wpAny (model X.prog X.w) A (compareOp op va vb) Q E s
noncomputable def itemW (X : Cx) (a i : V) (σ : Store) (K : OutE → Prop) : Prop := ∀ (A : Around) (s : Shared) (ρ : Nat → Addr) (value slice : Expr) (va vi : Value) (Q E : Value → Shared → Prop), (∀ a b c p, slice ≠ .Slice a b c p) → Rep X ρ σ s.heap → Has X σ.length ρ s.heap a va → Has X σ.length ρ s.heap i vi → OkE X σ ρ s K Q → wpAny (model X.prog X.w) A (subscriptTail value slice va vi) Q E s
noncomputable def sliceW (X : Cx) (a : V) (lo hi : Option Int) (σ : Store) (K : OutE → Prop) : Prop := ∀ (A : Around) (s : Shared) (ρ : Nat → Addr) (value : Expr) (lower upper : Option Expr) (p : Pos) (va vl vu : Value) (Q E : Value → Shared → Prop), Rep X ρ σ s.heap → Has X σ.length ρ s.heap a va → IsPart vl lo → IsPart vu hi → OkE X σ ρ s K Q →
  wpAny (model X.prog X.w) A (subscriptTail value (.Slice lower upper none p) va (.ref s.heap.objs.size)) Q E { s with heap := s.heap.push { cls := .type "slice", data := .fields #[vl, vu, .none] } }
noncomputable def setW (X : Cx) (a i v : V) (σ : Store) (f : Store → Prop) : Prop := ∀ (A : Around) (s : Shared) (ρ : Nat → Addr) (va vi vv : Value) (Q : Unit → Shared → Prop) (E : Value → Shared → Prop), Rep X ρ σ s.heap → Has X σ.length ρ s.heap a va → Has X σ.length ρ s.heap i vi → Has X σ.length ρ s.heap v vv →
  (∀ σ' h', f σ' → Rep X ρ σ' h' → Go Nowhere σ ρ s.heap σ' ρ h' → Q () { s with heap := h' }) → wpAny (model X.prog X.w) A (setItem va vi vv) Q E s
theorem bin_sound {op : Operator} {a b : V} {va vb : Value} (hb : binW X op a b σ K) (R : Rep X ρ σ s.heap) (ha : Has X σ.length ρ s.heap a va) (hb' : Has X σ.length ρ s.heap b vb) (ok : OkE X σ ρ s K Q) : wpAny (model X.prog X.w) A (binaryOp op va vb) Q E s := hb A s ρ va vb Q E R ha hb' ok
theorem un_sound {op : UnaryOp} {a : V} {va : Value} (hb : unW X op a σ K) (R : Rep X ρ σ s.heap) (ha : Has X σ.length ρ s.heap a va) (ok : OkE X σ ρ s K Q) : wpAny (model X.prog X.w) A (unaryOp op va) Q E s := hb A s ρ va Q E R ha ok
theorem cmp_sound {op : CmpOp} {a b : V} {va vb : Value} {f : Bool → Prop} (hb : cmpW X op a b σ f) (ar : Ar X k A env s.heap) (R : Rep X ρ σ s.heap) (ha : Has X σ.length ρ s.heap a va) (hb' : Has X σ.length ρ s.heap b vb) (h : ∀ r, f r → Q (.bool r) s) : wpAny (model X.prog X.w) A (compareOp op va vb) Q E s :=
  hb A s ρ va vb Q E (by have := ar.units; (first | lia | omega)) R ha hb' h
theorem item_sound {value slice : Expr} {a i : V} {va vi : Value} (hs : ∀ a b c p, slice ≠ .Slice a b c p) (hb : itemW X a i σ K) (R : Rep X ρ σ s.heap) (ha : Has X σ.length ρ s.heap a va) (hi : Has X σ.length ρ s.heap i vi) (ok : OkE X σ ρ s K Q) : wpAny (model X.prog X.w) A (subscriptTail value slice va vi) Q E s := hb A s ρ value slice va vi Q E hs R ha hi ok
theorem slice_sound {value : Expr} {lower upper : Option Expr} {p : Pos} {a : V} {va vl vu : Value} {lo hi : Option Int} (hb : sliceW X a lo hi σ K) (R : Rep X ρ σ s.heap) (ha : Has X σ.length ρ s.heap a va) (pl : IsPart vl lo) (pu : IsPart vu hi)
    (ok : OkE X σ ρ s K Q) : wpAny (model X.prog X.w) A (subscriptTail value (.Slice lower upper none p) va (.ref s.heap.objs.size)) Q E { s with heap := s.heap.push { cls := .type "slice", data := .fields #[vl, vu, .none] } } := hb A s ρ value lower upper p va vl vu Q E R ha pl pu ok
theorem set_sound {a i v : V} {va vi vv : Value} {f : Store → Prop} {Q : Unit → Shared → Prop} (hb : setW X a i v σ f) (R : Rep X ρ σ s.heap) (ha : Has X σ.length ρ s.heap a va) (hi : Has X σ.length ρ s.heap i vi) (hv : Has X σ.length ρ s.heap v vv)
    (h : ∀ σ' h', f σ' → Rep X ρ σ' h' → Go Nowhere σ ρ s.heap σ' ρ h' → Q () { s with heap := h' }) : wpAny (model X.prog X.w) A (setItem va vi vv) Q E s := hb A s ρ va vi vv Q E R ha hi hv h
theorem newRef {c : Cell} {ρ : Nat → Addr} {h : Heap} {a : Addr} : Has X (σ ++ [c]).length (fun i => if i = σ.length then a else ρ i) h (.ref σ.length) (.ref a) := by
  have := Has.ref (X := X) (n := (σ ++ [c]).length) (ρ := fun i => if i = σ.length then a else ρ i) (h := h) (i := σ.length) (by simp)
  simpa using this
theorem Rep.grow1 {h : Heap} (R : Rep X ρ σ h) (o : Obj) : Rep X ρ σ (h.push o) ∧ Go Nowhere σ ρ h σ ρ (h.push o) := by
  have hk : ∀ b o', h.get? b = some o' → (h.push o).get? b = some o' := fun b o' e => Heap.get?_push_of_some _ e
  refine ⟨⟨fun b o' e => hk _ _ (R.base b o' e), fun i c hc => ?_, R.own, R.inj, R.badKeep fun b o e _ => hk b o e⟩, ⟨by rw [Heap.size_push]; exact Nat.le_succ _, fun b o' e _ _ => ⟨o'.slots, hk b o' e, fun _ => rfl⟩, fun b o' es n e d => ⟨o', es, n, hk _ _ e, d⟩, Nat.le_refl _, fun _ _ => rfl, fun i h1 h2 => absurd h2 (Nat.not_lt.mpr h1)⟩⟩
  obtain ⟨oc, its, hp, sh, ha⟩ := R.cell i c hc
  exact ⟨oc, its, hk _ _ hp, sh.mono fun b o' e _ => hk b o' e, ha.mono (Nat.le_refl _) (fun _ _ => rfl) fun b o' e _ => hk b o' e⟩
theorem zqav {i j : Int} (h : K (.val (.d (.int (i + j))) σ)) : binW X .Add (.d (.int i)) (.d (.int j)) σ K := by
  intro A s ρ va vb Q E R ha hb' ok
  obtain ⟨t, rfl⟩ := ha.int_inv; obtain ⟨u, rfl⟩ := hb'.int_inv
  exact PyProof.Rows.add_int (ok.same R h (.ofInt ..) _)
theorem zqbh {i j : Int} (h : K (.val (.d (.int (i - j))) σ)) : binW X .Sub (.d (.int i)) (.d (.int j)) σ K := by
  intro A s ρ va vb Q E R ha hb' ok
  obtain ⟨t, rfl⟩ := ha.int_inv; obtain ⟨u, rfl⟩ := hb'.int_inv
  exact PyProof.Rows.sub_int (ok.same R h (.ofInt ..) _)
theorem zqo {i j : Int} (h1 : IntMulOk i j) (h : K (.val (.d (.int (i * j))) σ)) : binW X .Mult (.d (.int i)) (.d (.int j)) σ K := by
  intro A s ρ va vb Q E R ha hb' ok
  obtain ⟨t, rfl⟩ := ha.int_inv; obtain ⟨u, rfl⟩ := hb'.int_inv
  exact PyProof.Rows.mul_int (ok.same R h (.ofInt ..) _) h1
theorem zqce {i j : Int} (h1 : 0 < j ∧ j < 1073741824) (h : K (.val (.d (.int (i / j))) σ)) : binW X .FloorDiv (.d (.int i)) (.d (.int j)) σ K := by
  intro A s ρ va vb Q E R ha hb' ok
  obtain ⟨t, rfl⟩ := ha.int_inv; obtain ⟨u, rfl⟩ := hb'.int_inv
  exact PyProof.Rows.floordiv_int (by have := h1.1; (first | lia | omega)) (ok.same R (by rw [Int.fdiv_eq_ediv_of_nonneg _ (by (first | lia | omega))]; exact h) (.ofInt ..) _) (.inl (PyProof.noPylong_small (by (first | lia | omega))))
theorem zqm {i j : Int} (h1 : 0 < j) (h : K (.val (.d (.int (i % j))) σ)) : binW X .Mod (.d (.int i)) (.d (.int j)) σ K := by
  intro A s ρ va vb Q E R ha hb' ok
  obtain ⟨t, rfl⟩ := ha.int_inv; obtain ⟨u, rfl⟩ := hb'.int_inv
  exact PyProof.Rows.mod_int' (by (first | lia | omega)) (ok.same R (by rw [Int.fmod_eq_emod_of_nonneg _ (by (first | lia | omega))]; exact h) (.ofInt ..) _)
theorem zqag {i : Int} (h : K (.val (.d (.int (-i))) σ)) : unW X .USub (.d (.int i)) σ K := by
  intro A s ρ va Q E R ha ok
  obtain ⟨t, rfl⟩ := ha.int_inv
  exact PyProof.Rows.neg_int (ok.same R h (.ofInt ..) _)
theorem zqbl {b : Bool} (h : K (.val (.d (.bool (!b))) σ)) : unW X .Not (.d (.bool b)) σ K := by
  intro A s ρ va Q E R ha ok
  cases ha.bool_inv
  exact not_of (wpAny_truthy_bool (ok.same R h (.ofBool _) s.toks))
theorem zqci {i j : Int} {g : Bool → Prop} (h : g (decide (i < j))) : cmpW X .Lt (.d (.int i)) (.d (.int j)) σ g := by
  intro A s ρ va vb Q E hu R ha hb' hq
  obtain ⟨t, rfl⟩ := ha.int_inv; obtain ⟨u, rfl⟩ := hb'.int_inv
  exact PyProof.Rows.lt_int (hq _ h)
theorem zqh {i j : Int} {g : Bool → Prop} (h : g (decide (i ≤ j))) : cmpW X .LtE (.d (.int i)) (.d (.int j)) σ g := by
  intro A s ρ va vb Q E hu R ha hb' hq
  obtain ⟨t, rfl⟩ := ha.int_inv; obtain ⟨u, rfl⟩ := hb'.int_inv
  exact PyProof.Rows.le_int (hq _ h)
theorem zqbd {i j : Int} {g : Bool → Prop} (h : g (decide (j < i))) : cmpW X .Gt (.d (.int i)) (.d (.int j)) σ g := by
  intro A s ρ va vb Q E hu R ha hb' hq
  obtain ⟨t, rfl⟩ := ha.int_inv; obtain ⟨u, rfl⟩ := hb'.int_inv
  exact PyProof.Rows.gt_int (hq _ h)
theorem zqcd {i j : Int} {g : Bool → Prop} (h : g (decide (j ≤ i))) : cmpW X .GtE (.d (.int i)) (.d (.int j)) σ g := by
  intro A s ρ va vb Q E hu R ha hb' hq
  obtain ⟨t, rfl⟩ := ha.int_inv; obtain ⟨u, rfl⟩ := hb'.int_inv
  exact PyProof.Rows.ge_int (hq _ h)
theorem zqk {a b : V} {x y : PyData} {g : Bool → Prop} (h1 : dataOf σ 3 a = some x) (h2 : dataOf σ 3 b = some y) (h3 : SeqAt.shaped x = true) (h4 : SeqAt.shaped y = true) (h : g (PyData.eqv x y)) : cmpW X .Eq a b σ g := by
  intro A s ρ va vb Q E hu R ha hb' hq
  obtain ⟨as, ra⟩ := reads_of R _ _ _ _ ha h1
  obtain ⟨bs, rb⟩ := reads_of R _ _ _ _ hb' h2
  exact eq_dataH ra rb h3 h4 (by (first | lia | omega)) (hq _ h)
theorem zqn {a b : V} {x y : PyData} {g : Bool → Prop} (h1 : dataOf σ 3 a = some x) (h2 : dataOf σ 3 b = some y) (h3 : SeqAt.shaped x = true) (h4 : SeqAt.shaped y = true) (h : g (!PyData.eqv x y)) : cmpW X .NotEq a b σ g := by
  intro A s ρ va vb Q E hu R ha hb' hq
  obtain ⟨as, ra⟩ := reads_of R _ _ _ _ ha h1
  obtain ⟨bs, rb⟩ := reads_of R _ _ _ _ hb' h2
  exact ne_dataH ra rb h3 h4 (by (first | lia | omega)) (hq _ h)
theorem zqa {l : Nat} {k : Int} {xs : List V} {v : V} (h1 : itemsAt σ l = some xs) (h2 : 0 ≤ k ∧ k < 2 ^ 63) (h3 : xs[k.toNat]? = some v) (h4 : K (.val v σ)) : itemW X (.ref l) (.d (.int k)) σ K := by
  intro A s ρ value slice va vi Q E hs R ha hi ok
  obtain ⟨t, rfl⟩ := hi.int_inv
  obtain ⟨_, rfl⟩ := ha.ref_inv
  obtain ⟨_, its, ⟨n, e⟩, hall⟩ := R.list h1
  obtain ⟨w, hw, hv⟩ := hall.get h3
  have hL : s.heap.IsList (ρ _) its.toArray := ⟨_, e, rfl, n, rfl⟩
  exact tail_any hL.typeIs slot_list_getitem.lookup (wpAny_getItem_list hL h2.1 h2.2 (by simpa using hw) (ok.same R h4 hv s.toks)) (subscripted_plain hs _ _)
theorem zqcf {k : Int} {xs : List PyData} {x : PyData} (h2 : 0 ≤ k ∧ k < 2 ^ 63) (h3 : xs[k.toNat]? = some x) (h4 : K (.val (.d x) σ)) : itemW X (.d (.tuple xs)) (.d (.int k)) σ K := by
  intro A s ρ value slice va vi Q E hs R ha hi ok
  obtain ⟨t, rfl⟩ := hi.int_inv
  have r := ha.d_rdc
  cases r with
  | @tuple a o vs n xs e1 e2 e3 eb e4 =>
    obtain ⟨w, hw, hr⟩ := e4.get h3
    have hT : IsTup s.heap _ _ := ⟨_, e1, e2, _, e3⟩
    have hj : seqIndex? k vs.size = some k.toNat := by
      unfold seqIndex?
      have hlt := (List.getElem?_eq_some_iff.mp hw).1
      simp only [Array.length_toList] at hlt
      have : ¬ k < 0 := by (first | lia | omega)
      simp only [this, if_false]
      rw [if_pos]
      simp only [Bool.and_eq_true, decide_eq_true_eq]
      (first | lia | omega)
    exact tail_any hT.typeIs slot_tuple_getitem.lookup (PyProof.Rows.getItem_tuple hT (by (first | lia | omega)) h2.2 hj (by simpa using hw) (ok.same R h4 (.d hr) s.toks)) (subscripted_plain hs _ _)
theorem zqam {l : Nat} {lo hi : Option Int} {xs : List V} (h1 : itemsAt σ l = some xs) (h2 : xs.length ≤ 1000000) (h3 : K (.val (.ref σ.length) (σ ++ [.lst (sliceV xs lo hi)]))) : sliceW X (.ref l) lo hi σ K := by
  intro A s ρ value lower upper p va vl vu Q E R ha pl pu ok
  obtain ⟨_, rfl⟩ := ha.ref_inv
  obtain ⟨_, its, ⟨n, e⟩, hall⟩ := R.list h1
  have hL : s.heap.IsList (ρ _) its.toArray := ⟨_, e, rfl, n, rfl⟩
  refine tail_any (s := { s with heap := s.heap.push { cls := .type "slice", data := .fields #[vl, vu, .none] } }) (hL.push _).typeIs slot_list_getitem.lookup ?_ rfl
  refine wpAny_getItem_list_slice (hL.push _) (Heap.IsSliceOf.new ..) pl pu .none (by simp) ?_ (by rw [List.size_toArray, sizeLine_eq, ← hall.length]; (first | lia | omega))
  have R1 := R.grow1 { cls := .type "slice", data := .fields #[vl, vu, .none] }
  have hall1 : HasAll X σ.length ρ (s.heap.push { cls := .type "slice", data := .fields #[vl, vu, .none] }) xs its := hall.mono (Nat.le_refl _) (fun _ _ => rfl) fun b o e _ => Heap.get?_push_of_some _ e
  have N := R1.1.newList (n := 0) (hall1.slice lo hi)
  have hh := ok _ _ _ (.ref (s.heap.push { cls := .type "slice", data := .fields #[vl, vu, .none] }).objs.size) _ s.toks h3 N.1 (R1.2.trans N.2) (by
    have := Has.ref (X := X) (n := (σ ++ [Cell.lst (sliceV xs lo hi)]).length) (ρ := fun i => if i = σ.length then (s.heap.push { cls := .type "slice", data := .fields #[vl, vu, .none] }).objs.size else ρ i) (h := (s.heap.push { cls := .type "slice", data := .fields #[vl, vu, .none] }).push { cls := .type "list", data := .seq (sliceV its lo hi).toArray 0 }) (i := σ.length) (by simp)
    simpa using this)
  rw [slicePick_plain]
  have es : ((its.toArray.toList.drop (lo.elim 0 (clipAt its.toArray.size))).take (hi.elim its.toArray.size (clipAt its.toArray.size) - lo.elim 0 (clipAt its.toArray.size))) = sliceV its lo hi := by
    unfold sliceV; simp
  rw [es]
  exact hh
theorem zqi {l : Nat} {j : Int} {v : V} {xs : List V} {f : Store → Prop} (h1 : σ[l]? = some (.lst xs)) (h2 : 0 ≤ j ∧ j < 2 ^ 63) (h3 : j < xs.length) (h4 : f (σ.set l (.lst (xs.set j.toNat v)))) : setW X (.ref l) (.d (.int j)) v σ f := by
  intro A s ρ va vi vv Q E R ha hi hv h
  obtain ⟨t, rfl⟩ := hi.int_inv
  obtain ⟨_, rfl⟩ := ha.ref_inv
  obtain ⟨_, its, e, ⟨n, rfl⟩, hall⟩ := R.cell _ _ h1
  have hlen : xs.length = its.length := hall.length
  refine setItem_plain e h2.1 h2.2 (by rw [List.size_toArray, ← hlen]; exact h3) fun h' n' hp hsb => ?_
  have hp' : h'.get? (ρ l) = some { cls := .type "list", data := .seq (its.set j.toNat vv).toArray n' } := by simpa using hp
  obtain ⟨R', g'⟩ := R.setCell h1 hsb hp' (hall.set hv _)
  exact h _ h' h4 R' g'
end
end Mine

set_option Elab.async false
set_option autoImplicit false
set_option linter.unusedVariables false
namespace Mine
open PySem PySem.Spec PySem.Calls PyProof.Rows
noncomputable def Kp (X : Cx) (f : Value) : Prop := ∃ k, (k = Keeper.frame ∨ k = Keeper.machine ∨ k = Keeper.boundFrame) ∧
  ∀ (A : Around) (Q : Keeper → Shared → Prop) (E : Value → Shared → Prop) (s : Shared), (∀ b o, X.B.get? b = some o → s.heap.get? b = some o) → Q k s → wpAny (model X.prog X.w) A (keeperOf f) Q E s
noncomputable def ValidF (X : Cx) (k : Nat) (x : Str) (T : Contract) : Prop :=
  ∃ f, X.val x = some f ∧ Kp X f ∧ ∀ vs σ K, T vs σ K → ∀ (A : Around) (s : Shared) (ρ : Nat → Addr) (vals : List Value) (Q E : Value → Shared → Prop),
    ArC X k A s.heap → Rep X ρ σ s.heap → HasAll X σ.length ρ s.heap vs vals → OkE X σ ρ s K Q → ErE X none σ ρ s K E → wpAny (model X.prog X.w) A (call f vals) Q E s
noncomputable def ValidM (X : Cx) (k : Nat) (ty : String) (name : Str) (T : Contract) : Prop :=
  ∃ id, PlainAttrs ty ∧ PySem.Slot ty name id ∧ typeOf (.builtin id) = pure (.type "method_descriptor") ∧ ∀ vs σ K, T vs σ K → ∀ (A : Around) (s : Shared) (ρ : Nat → Addr) (vals : List Value) (Q E : Value → Shared → Prop),
    ArC X k A s.heap → Rep X ρ σ s.heap → HasAll X σ.length ρ s.heap vs vals → OkE X σ ρ s K Q → ErE X none σ ρ s K E → wpAny (model X.prog X.w) A (call (.builtin id) vals) Q E s
theorem Kp.func {X : Cx} {a : Addr} {o : Obj} {fd : FuncData} (ho : X.B.get? a = some o) (hd : o.data = .func fd) : Kp X (.ref a) :=
  ⟨.frame, .inl rfl, fun A Q E s hk hQ => by
    unfold keeperOf
    refine wpAny_bind (wpAny_load (hk _ _ ho) ?_)
    rw [hd]; exact wpAny_pure hQ⟩
theorem Kp.builtin {X : Cx} {id : String} : Kp X (.builtin id) := ⟨.machine, .inr (.inl rfl), fun A Q E s hk hQ => wpAny_pure hQ⟩
theorem Kp.type {X : Cx} {id : String} : Kp X (.type id) := ⟨.machine, .inr (.inl rfl), fun A Q E s hk hQ => wpAny_pure hQ⟩
section
variable {X : Cx} {k : Nat} {env : Env} {sc : Kinds} {m : Loc} {σ : Store} {K : OutE → Prop} {A : Around} {s : Shared} {ρ : Nat → Addr} {Q E : Value → Shared → Prop}
theorem callWith_gen {pos : Pos} {f : Value} {first : List Value} {args : List (Bool × Sem Value)} (hplain : args.any (·.1) = false) (hf : Kp X f)
    (h : wpAny (model X.prog X.w) A (evalArgs f true args []) (fun a s₁ => (∀ b o, X.B.get? b = some o → s₁.heap.get? b = some o) ∧ wpAny (model X.prog X.w) A (call f (first ++ a.pos) a.kw) Q E s₁) E s) :
    wpAny (model X.prog X.w) A (callWith pos f first args []) Q E s := by
  unfold callWith
  refine wpAny_bind (wpAny_holding (wpAny_mono h (fun a s₁ h₁ => wpAny_bind (wpAny_standAt ?_)) fun _ _ x => x))
  obtain ⟨k, hk', L⟩ := hf
  simp only [hplain, List.any_nil, Bool.or_false]
  refine wpAny_bind (L _ _ _ _ h₁.1 ?_)
  have tail : ∀ {t : Sem Value}, wpAny (model X.prog X.w) A t Q E s₁ → wpAny (model X.prog X.w) A (t >>= fun r => holding [r] point >>= fun _ => pure r) Q E s₁ :=
    fun ht => wpAny_bind (wpAny_mono ht (fun r s₂ hr => wpAny_bind (wpAny_holding (wpAny_point (wpAny_pure hr)))) fun _ _ x => x)
  have marked (mk : Value) : wpAny (model X.prog X.w) A (callMarked mk f (first ++ a.pos) a.kw) Q E s₁ := by unfold callMarked; exact Calls.wpAny_keep h₁.2
  rcases hk' with rfl | rfl | rfl <;> dsimp only <;> first | exact tail h₁.2 | (split <;> first | exact tail h₁.2 | exact tail (marked _))
theorem loadGlobal_sound {x : Str} {v : Value} (cx : CxOk X) (R : Rep X ρ σ s.heap) (F : Frm X env sc m σ.length ρ s.heap) (hv : X.val x = some v) (h : Q v s) : wpAny (model X.prog X.w) A (loadGlobal env x) Q E s := by
  unfold loadGlobal
  rw [F.glob, F.bi]
  refine wpAny_bind (wpAny_nsGet (cx.g.keeps R.base) ?_)
  unfold Cx.val at hv
  cases hg : X.mg x with
  | some u => rw [hg] at hv; cases hv; exact wpAny_pure h
  | none =>
    rw [hg] at hv
    refine wpAny_bind (wpAny_nsGet (cx.b.keeps R.base) ?_)
    have hv' : X.mb x = some v := hv
    rw [hv']; exact wpAny_pure h
theorem KindsOk.notDebug (hk : KindsOk sc env) {x : Str} {kd : NameKind} (h : sc x = some kd) : (x == ("__debug__" : Str)) = false := by
  cases hb : x == ("__debug__" : Str) with
  | false => rfl
  | true => rw [beq_iff_eq.mp hb, hk.debug] at h; cases h
theorem KindsOk.notClassdict (hk : KindsOk sc env) {x : Str} {kd : NameKind} (h : sc x = some kd) : (x == ("__classdict__" : Str)) = false := by
  cases hb : x == ("__classdict__" : Str) with
  | false => rfl
  | true => rw [beq_iff_eq.mp hb, hk.classdict] at h; cases h
theorem glob_sound {x : Str} {pos : Pos} {v : Value} (cx : CxOk X) (R : Rep X ρ σ s.heap) (F : Frm X env sc m σ.length ρ s.heap) (hx : sc x = some .globalImplicit) (hv : X.val x = some v) (h : Q v s) :
    wpAny (model X.prog X.w) A (eval (.Name x pos) env) Q E s :=
  Name_function_global F.kind (F.kinds.glob x hx) (loadGlobal_sound cx R F hv h) (F.kinds.notDebug hx)
theorem starEach_plain {e : Expr} {rest : List Expr} (h : noStar e = true) : starEach (e :: rest) env = (false, eval e env) :: starEach rest env := by
  cases e <;> first | rfl | exact absurd h (by simp [noStar])
noncomputable def ST (X : Cx) (k : Nat) (env : Env) (sc : Kinds) (t : Sem Bool) (m : Loc) (σ : Store) (K : OutE → Prop) (f : Bool → Store → Prop) : Prop :=
  ∀ (A : Around) (s : Shared) (ρ : Nat → Addr) (Q : Bool → Shared → Prop) (E : Value → Shared → Prop), Ar X k A env s.heap → Rep X ρ σ s.heap → Frm X env sc m σ.length ρ s.heap →
    (∀ b σ' ρ' h' tk, f b σ' → Rep X ρ' σ' h' → Go Nowhere σ ρ s.heap σ' ρ' h' → Ar X k A env h' → Frm X env sc m σ'.length ρ' h' → Q b { s with heap := h', toks := tk }) → ErE X env.frame σ ρ s K E → wpAny (model X.prog X.w) A t Q E s
theorem args_noStar {pos : Pos} : ∀ (es : List Expr), es.all noStar = true → (backTo pos (starEach es env)).any (·.1) = false
  | [], hw => rfl
  | e :: r, hw => by
    rw [List.all_cons, Bool.and_eq_true] at hw
    rw [starEach_plain hw.1]
    show (false || (backTo pos (starEach r env)).any (·.1)) = false
    rw [Bool.false_or]
    exact args_noStar r hw.2
end
end Mine

set_option Elab.async false
set_option autoImplicit false
set_option linter.unusedVariables false
namespace Mine
open PySem PySem.Spec PySem.Calls PyProof.Rows
section
variable {X : Cx} {k : Nat} {env : Env} {sc : Kinds} {m : Loc} {σ : Store} {K : OutE → Prop} {A : Around} {s : Shared} {ρ : Nat → Addr} {Q E : Value → Shared → Prop}
theorem evalArgs_gen {M : Model} {f : Value} {args : List (Bool × Sem Value)} {Q : Args → Shared → Prop} (hp : args.any (·.1) = false)
    (h : wpAny M A (spliced args) (fun vs s' => Q ⟨vs, []⟩ s') E s) : wpAny M A (evalArgs f true args []) Q E s := by
  cases args with
  | nil =>
    unfold evalArgs
    show wpAny M A (spliced [] >>= _) Q E s
    refine wpAny_bind (wpAny_mono h (fun vs s' h' => ?_) fun _ _ x => x)
    exact wpAny_holding (wpAny_bind (wpAny_pure (wpAny_bind (wpAny_pure (wpAny_pure h')))))
  | cons a r =>
    obtain ⟨b, x⟩ := a
    have hb : b = false := by
      have : (b || r.any (·.1)) = false := hp
      exact (Bool.or_eq_false_iff.mp this).1
    subst hb
    exact evalArgs_plain h
theorem release_any {M : Model} {vs keep : List Value} {Q : Unit → Shared → Prop} (h : Q () s) : wpAny M A (release vs keep) Q E s := fun Γ p _ => by rw [Sem.wp_release]; exact h
end
end Mine

set_option Elab.async false
set_option autoImplicit false
set_option linter.unusedVariables false
namespace Mine
open PySem PySem.Spec PySem.Calls PyProof.Rows
theorem runs_size {M : Model} {Γ : PySem.Ctx} {p : Pos} {t : Sem Fin} {fs : List Frame} {s s' : Shared} {e : End} (h : Runs M Γ p t fs s e s') : s.heap.objs.size ≤ s'.heap.objs.size := by
  induction h <;> (try simp only [Shared.setGen, Heap.size_push, Heap.size_after_update] at *) <;> (first | lia | omega)
theorem wakes_size {M : Model} {Γ : PySem.Ctx} {p : Pos} {g : Nat} {r : Resume} {s s' : Shared} {res : GenResult} (h : Wakes M Γ p g r s res s') : s.heap.objs.size ≤ s'.heap.objs.size := by
  unfold Wakes at h
  split at h
  · exact h.elim
  · split at h
    · obtain ⟨e₁, s₁, hr, _, _, rfl⟩ := h; exact (runs_size hr : (s.setGen g .running).heap.objs.size ≤ s₁.heap.objs.size)
    · rw [h.2]; exact Nat.le_refl _
    · rw [h.2]; exact Nat.le_refl _
  · obtain ⟨e₁, s₁, hr, _, _, rfl⟩ := h; exact (runs_size hr : (s.setGen g .running).heap.objs.size ≤ s₁.heap.objs.size)
  · rw [h.2]; exact Nat.le_refl _
  · rw [h.2]; exact Nat.le_refl _
theorem wp_size {α : Type} (M : Model) (Γ : PySem.Ctx) (n : Nat) (t : Sem α) : ∀ (Q : α → Pos → Shared → Prop) (E : Value → Pos → Shared → Prop) (p : Pos) (s : Shared), n ≤ s.heap.objs.size → Sem.wp M Γ t Q E p s →
    Sem.wp M Γ t (fun a p' s' => n ≤ s'.heap.objs.size ∧ Q a p' s') (fun e p' s' => n ≤ s'.heap.objs.size ∧ E e p' s') p s := by
  induction t with
  | pure a => intro Q E p s hn h; exact ⟨hn, h⟩
  | raise e => intro Q E p s hn h; exact ⟨hn, h⟩
  | unsupported _ => intro Q E p s _ h; exact h
  | finish _ => intro Q E p s _ h; exact h
  | rule _ k ih => intro Q E p s hn h; exact ih () Q E p s hn h
  | «at» p' k ih => intro Q E p s hn h; exact ih () Q E p' s hn h
  | load a _ k ih => intro Q E p s hn h; obtain ⟨o, ho, h⟩ := h; exact ⟨o, ho, ih o Q E p s hn h⟩
  | update a _ f k ih => intro Q E p s hn h; exact ⟨h.1, ih () Q E p _ (by show n ≤ (s.heap.update a f).objs.size; rw [Heap.size_after_update]; exact hn) h.2⟩
  | loadIfAlive a k ih => intro Q E p s hn h; exact ih _ Q E p s hn h
  | point _ k ih => intro Q E p s hn h; exact ih () Q E p s hn h
  | register _ _ => intro Q E p s _ h; exact h
  | alloc o k ih => intro Q E p s hn h; exact ih _ Q E p _ (by show n ≤ (s.heap.push o).objs.size; rw [Heap.size_push]; exact Nat.le_succ_of_le hn) h
  | fresh k ih => intro Q E p s hn h; exact ih _ Q E p _ hn h
  | ask k ih => intro Q E p s hn h; exact ih _ Q E p s hn h
  | choose src m k ih => intro Q E p s hn h; exact ⟨h.1, ih _ Q E p _ hn h.2⟩
  | os q _ k ih => intro Q E p s hn h; exact ih _ Q E p _ hn h
  | call c hd _ _ k ih => intro Q E p s hn h; obtain ⟨r, s', hr, h⟩ := h; exact ⟨r, s', hr, ih r Q E p s' (Nat.le_trans hn (runs_size hr)) h⟩
  | handled own k ih => intro Q E p s hn h; exact ih _ Q E p s hn h
  | genState g k ih => intro Q E p s hn h; obtain ⟨st, hs, h⟩ := h; exact ⟨st, hs, ih _ Q E p s hn h⟩
  | newGen c k ih => intro Q E p s hn h; exact ih _ Q E p _ hn h
  | resume g r _ k ih => intro Q E p s hn h; obtain ⟨res, s', hw, h⟩ := h; exact ⟨res, s', hw, ih res Q E p s' (Nat.le_trans hn (wakes_size hw)) h⟩
  | yield _ _ _ _ => intro Q E p s _ h; exact h
  | stack k ih => intro Q E p s hn h; exact ih _ Q E p s hn h
  | fork _ _ => intro Q E p s _ h; exact h
  | thread k ih => intro Q E p s hn h; exact ih _ Q E p s hn h
  | await _ _ _ _ _ => intro Q E p s _ h; exact h
theorem wpAny_sized {α : Type} {M : Model} {A : Around} {s : Shared} {t : Sem α} {Q : α → Shared → Prop} {E : Value → Shared → Prop}
    (h : wpAny M A t (fun a s' => s.heap.objs.size ≤ s'.heap.objs.size → Q a s') (fun e s' => s.heap.objs.size ≤ s'.heap.objs.size → E e s') s) : wpAny M A t Q E s :=
  fun Γ p hΓ => Sem.wp_mono M Γ t (fun _ _ _ x => x.2 x.1) (fun _ _ _ x => x.2 x.1) p s (wp_size M Γ s.heap.objs.size t _ _ p s (Nat.le_refl _) (h Γ p hΓ))
structure Ext1 (I : Addr) (h h' : Heap) : Prop where
  size : h.objs.size ≤ h'.objs.size
  keep : ∀ b o, b ≠ I → h.get? b = some o → h'.get? b = some o
inductive IterAt (bad : Addr → Prop) (ρ : Nat → Addr) (h : Heap) (I : Addr) (k : Nat) : V → Prop
  | ref {l} : h.IsListIter I (ρ l) k → IterAt bad ρ h I k (.ref l)
  | tup {xs t items} : h.IsTupleIter I t k → h.IsTuple t items → RdsC bad h items.toList xs → IterAt bad ρ h I k (.d (.tuple xs))
  | rng {lo hi} : IsRangeIter h I (lo + k) (Builtin.Range.rangeSize lo hi 1 - k) 1 → IterAt bad ρ h I k (.rng lo hi)
noncomputable def IterObj (o : Obj) : Prop := (∃ T ∈ iterTypes, o.cls = .type T) ∧ ∃ vs, o.data = .fields vs
theorem IterAt.obj {bad : Addr → Prop} {ρ : Nat → Addr} {h : Heap} {I : Addr} {k : Nat} {src : V} (x : IterAt bad ρ h I k src) : ∃ o, h.get? I = some o ∧ IterObj o := by
  cases x with
  | ref hi => obtain ⟨o, h1, h2, h3⟩ := hi; exact ⟨o, h1, ⟨_, by simp [iterTypes], h2⟩, _, h3⟩
  | tup hi _ _ => obtain ⟨o, h1, h2, h3⟩ := hi; exact ⟨o, h1, ⟨"tuple_iterator", by simp [iterTypes], h2⟩, _, h3⟩
  | rng hi => exact ⟨_, hi, ⟨"range_iterator", by simp [iterTypes], rfl⟩, _, rfl⟩
section
variable {X : Cx} {σ σ' : Store} {ρ ρ' : Nat → Addr} {h h' h'' : Heap} {I : Addr} {k : Nat} {src : V} {W : Addr → Prop}
noncomputable def SrcOk (n : Nat) : V → Prop
  | .ref l => l < n
  | _ => True
theorem IterAt.mono {bad : Addr → Prop} (x : IterAt bad ρ h I k src) {n : Nat} (hs : SrcOk n src) (hρ : ∀ i, i < n → ρ' i = ρ i) (hI : ∀ o, h.get? I = some o → IterObj o → h'.get? I = some o) (hk : ∀ b o, h.get? b = some o → Still o → h'.get? b = some o) : IterAt bad ρ' h' I k src := by
  obtain ⟨o, e, hio⟩ := x.obj
  have e' := hI o e hio
  cases x with
  | ref hi =>
    obtain ⟨o', h1, h2, h3⟩ := hi
    rw [e] at h1; cases h1
    exact .ref ⟨o, e', h2, by rw [hρ _ hs]; exact h3⟩
  | tup hi ht hr =>
    obtain ⟨o', h1, h2, h3⟩ := hi
    rw [e] at h1; cases h1
    obtain ⟨o', t1, t2, n, t3⟩ := ht
    exact .tup ⟨o, e', h2, h3⟩ ⟨o', hk _ _ t1 (.tuple t2 t3), t2, n, t3⟩ (hr.to (fun _ _ _ q => q) fun b o e hc hs _ => let ⟨_, _, hd⟩ := hs; hk b o e (.tuple hc hd))
  | rng hi =>
    rw [hi] at e; cases e
    exact .rng e'
theorem Rep.notIter (R : Rep X ρ σ h) {o : Obj} (e : h.get? I = some o) (ho : IterObj o) : ∀ i, i < σ.length → I ≠ ρ i :=
  R.notCell e (by obtain ⟨⟨T, hT, hc⟩, _⟩ := ho; rw [hc]; simp [iterTypes] at hT; rcases hT with rfl | rfl | rfl | rfl | rfl | rfl <;> decide) (by obtain ⟨⟨T, hT, hc⟩, _⟩ := ho; rw [hc]; exact fun q => nomatch q) (fun es n q => by obtain ⟨_, vs, hd⟩ := ho; rw [hd] at q; cases q)
theorem IterAt.go {bad : Addr → Prop} (x : IterAt bad ρ h I k src) (hs : SrcOk σ.length src) (R : Rep X ρ σ h) (g : Go W σ ρ h σ' ρ' h') (w : WOk W h) : IterAt bad ρ' h' I k src :=
  x.mono hs g.ext (fun o e ho => by
    have hnd : NoDict o := fun es n q => by obtain ⟨_, vs, hd⟩ := ho; rw [hd] at q; cases q
    have hnw : ¬ W I := fun q => by
      rcases w I o q e with ⟨es, n, hd⟩ | ⟨v, hd⟩
      · exact hnd es n hd
      · obtain ⟨_, vs, hd'⟩ := ho; rw [hd'] at hd; cases hd
    obtain ⟨sl, e1, f1⟩ := g.keep I o e hnw (R.notIter e ho)
    rw [f1 hnd] at e1
    exact e1) (g.still R w)
theorem Ext1.still (x : Ext1 I h h') {o : Obj} (e : h.get? I = some o) (ho : IterObj o) : ∀ b o, h.get? b = some o → Still o → h'.get? b = some o := fun b o' e' hs => by
  refine x.keep b o' (fun q => ?_) e'
  subst q
  rw [e] at e'; cases e'
  obtain ⟨⟨T, hT, hc⟩, _⟩ := ho
  exact hs.noiter T hT hc
theorem Rep.ext1 (R : Rep X ρ σ h) (x : Ext1 I h h') {o : Obj} (e : h.get? I = some o) (ho : IterObj o) (hb : X.B.get? I = none) : Rep X ρ σ h' where
  base := fun b o' e' => x.keep b o' (fun q => by subst q; rw [hb] at e'; cases e') (R.base b o' e')
  cell := fun i c hc => by
    obtain ⟨oc, its, hp, sh, ha⟩ := R.cell i c hc
    exact ⟨oc, its, x.keep _ _ (Ne.symm (R.notIter e ho i (List.getElem?_eq_some_iff.mp hc).1)) hp, sh.mono (x.still e ho), ha.mono (Nat.le_refl _) (fun _ _ => rfl) (x.still e ho)⟩
  own := R.own
  inj := R.inj
  bad := R.badKeep (x.still e ho)
theorem Go.ext1 (g : Go W σ ρ h σ' ρ' h') (x : Ext1 I h' h'') (hI : h.objs.size ≤ I) : Go W σ ρ h σ' ρ' h'' where
  size := Nat.le_trans g.size x.size
  keep := fun b o e hw hb => let ⟨sl, e1, f1⟩ := g.keep b o e hw hb; ⟨sl, x.keep _ _ (Nat.ne_of_lt (Nat.lt_of_lt_of_le (Heap.lt_size e) hI)) e1, f1⟩
  dicts := fun b o es n e d => let ⟨o', es', n', e', d'⟩ := g.dicts b o es n e d; ⟨o', es', n', x.keep _ _ (Nat.ne_of_lt (Nat.lt_of_lt_of_le (Heap.lt_size e) hI)) e', d'⟩
  len := g.len
  ext := g.ext
  new := g.new
theorem Frm.ext1 {env : Env} {sc : Kinds} {m : Loc} {n : Nat} (F : Frm X env sc m n ρ h) (x : Ext1 I h h') {o : Obj} (e : h.get? I = some o) (ho : IterObj o) : Frm X env sc m n ρ h' := by
  have st := x.still e ho
  have hv : ∀ {v a}, Has X n ρ h v a → Has X n ρ h' v a := fun q => q.mono (Nat.le_refl _) (fun _ _ => rfl) st
  have hc : ∀ c ov, h.IsCell c ov → h'.IsCell c ov := fun c ov ⟨o', e', d⟩ => ⟨o', x.keep _ _ (fun q => by subst q; rw [e] at e'; cases e'; obtain ⟨_, vs, hd⟩ := ho; rw [hd] at d; cases d) e', d⟩
  refine { F with ns := ?_, cells := ?_, isCells := ?_ }
  · obtain ⟨mm, ⟨o', es, ep, e', d, r⟩, hm⟩ := F.ns
    refine ⟨mm, ⟨o', es, ep, x.keep _ _ (fun q => ?_) e', d, r⟩, fun y v h1 h2 => let ⟨a, h3, h4⟩ := hm y v h1 h2; ⟨a, h3, hv h4⟩⟩
    rw [q] at e'; rw [e] at e'; cases e'; obtain ⟨_, vs, hd⟩ := ho; rw [hd] at d; cases d
  · intro y hy
    obtain ⟨c, ov, h1, h2, h3⟩ := F.cells y hy
    exact ⟨c, ov, h1, hc c ov h2, fun v q => let ⟨a, h4, h5⟩ := h3 v q; ⟨a, h4, hv h5⟩⟩
  · intro y c hy
    obtain ⟨ov, h1⟩ := F.isCells y c hy
    exact ⟨ov, hc c ov h1⟩
theorem Ar.ext1 {k : Nat} {A : Around} {env : Env} (a : Ar X k A env h) (x : Ext1 I h h') {o : Obj} (e : h.get? I = some o) (ho : IterObj o) : Ar X k A env h' :=
  by
  refine { a with stack := ?_ }
  obtain ⟨f, ou, h1, h2, h3⟩ := a.stack
  refine ⟨f, ou, h1, h2, fun env he => ?_⟩
  obtain ⟨q1, L, o', es, n, q2, q3, q4, q5⟩ := h3 env he
  refine ⟨q1, L, o', es, n, q2, q3, x.keep _ _ (fun q => ?_) q4, q5⟩
  subst q; rw [e] at q4; cases q4; obtain ⟨_, vs, hd⟩ := ho; rw [hd] at q5; cases q5
theorem Rep.push (R : Rep X ρ σ h) (o : Obj) : Rep X ρ σ (h.push o) ∧ Go W σ ρ h σ ρ (h.push o) := by
  have hk : ∀ b o', h.get? b = some o' → (h.push o).get? b = some o' := fun b o' e => Heap.get?_push_of_some _ e
  refine ⟨⟨fun b o' e => hk _ _ (R.base b o' e), fun i c hc => ?_, R.own, R.inj, R.badKeep fun b o e _ => hk b o e⟩, ⟨by rw [Heap.size_push]; exact Nat.le_succ _, fun b o' e _ _ => ⟨o'.slots, hk b o' e, fun _ => rfl⟩, fun b o' es n e d => ⟨o', es, n, hk _ _ e, d⟩, Nat.le_refl _, fun _ _ => rfl, fun i h1 h2 => absurd h2 (Nat.not_lt.mpr h1)⟩⟩
  obtain ⟨oc, its, hp, sh, ha⟩ := R.cell i c hc
  exact ⟨oc, its, hk _ _ hp, sh.mono fun b o' e _ => hk b o' e, ha.mono (Nat.le_refl _) (fun _ _ => rfl) fun b o' e _ => hk b o' e⟩
end
section
variable {X : Cx} {k : Nat} {env : Env} {sc : Kinds} {m : Loc} {σ : Store} {A : Around} {s : Shared} {ρ : Nat → Addr} {E : Value → Shared → Prop}
noncomputable def IsSrc (σ : Store) : V → Prop
  | .ref l => ∃ xs, itemsAt σ l = some xs
  | .d (.tuple _) => True
  | .rng _ _ => True
  | _ => False
theorem isSrc_of {src : V} {i : Nat} {r : Option V} (h : srcNext σ src i = some r) : IsSrc σ src := by
  unfold srcNext at h
  split at h <;> first | exact trivial | cases h | (obtain ⟨xs, q, _⟩ := Option.map_eq_some_iff.mp h; exact ⟨xs, q⟩)
theorem srcOk_of {src : V} {a : Value} {h : Heap} (x : Has X σ.length ρ h src a) : SrcOk σ.length src := by
  cases x <;> first | exact trivial | assumption
theorem iter_sound {src : V} {a : Value} {Q : Value → Shared → Prop} (hs : IsSrc σ src) (R : Rep X ρ σ s.heap) (hv : Has X σ.length ρ s.heap src a)
    (h : ∀ h', IterAt X.bad ρ h' s.heap.objs.size 0 src → (∃ o, h' = s.heap.push o) → Q (.ref s.heap.objs.size) { s with heap := h' }) : wpAny (model X.prog X.w) A (pyIter a) Q E s := by
  unfold IsSrc at hs
  split at hs
  · obtain ⟨hi, rfl⟩ := hv.ref_inv
    obtain ⟨xs, hs⟩ := hs
    obtain ⟨_, its, ⟨n, hp⟩, ha⟩ := R.list hs
    exact wpAny_pyIter_list ⟨_, hp, rfl, n, rfl⟩ (h _ (.ref ⟨_, Heap.get?_push_size _ rfl, rfl, rfl⟩) ⟨_, rfl⟩)
  · have r := hv.d_rdc
    cases r with
    | @tuple a o vs n xs e1 e2 e3 eb e4 =>
      refine wpAny_pyIter_tuple ⟨o, e1, e2, n, e3⟩ (h _ (.tup ⟨_, Heap.get?_push_size _ rfl, rfl, rfl⟩ ⟨o, Heap.get?_push_of_some _ e1, e2, n, e3⟩ ?_) ⟨_, rfl⟩)
      exact e4.to (fun _ _ _ q => q) fun b o e _ _ _ => Heap.get?_push_of_some _ e
  · cases hv with
    | rng h1 h2 =>
      refine wpAny_pyIter_range h1 h2 (h _ (.rng ?_) ⟨_, rfl⟩)
      simpa using Heap.get?_push_size s.heap (o := { cls := .type "range_iterator", data := .fields #[rawInt _, rawInt (Builtin.Range.rangeSize _ _ 1), rawInt 1] }) rfl
  · exact hs.elim
theorem iterAgain_sound {src : V} {I : Addr} {j : Nat} {Q : Value → Shared → Prop} (it : IterAt X.bad ρ s.heap I j src) (h : Q (.ref I) s) : wpAny (model X.prog X.w) A (pyIter (.ref I)) Q E s := by
  cases it with
  | ref hi => exact wpAny_pyIter_listiter hi h
  | tup hi _ _ => exact wpAny_pyIter_tupleiter hi h
  | rng hi => exact wpAny_pyIter_rangeiter hi h
theorem next_sound {src : V} {I : Addr} {j : Nat} {r : Option V} {Q : Option Value → Shared → Prop} (hh : A.handled = none) (R : Rep X ρ σ s.heap) (it : IterAt X.bad ρ s.heap I j src) (hs : SrcOk σ.length src) (e : srcNext σ src j = some r)
    (hsome : ∀ v a h' tk, r = some v → Has X σ.length ρ h' v a → IterAt X.bad ρ h' I (j + 1) src → Ext1 I s.heap h' → Q (some a) { s with heap := h', toks := tk })
    (hnone : ∀ h' tk, r = none → Ext1 I s.heap h' → Q none { s with heap := h', toks := tk }) : wpAny (model X.prog X.w) A (pyNext (.ref I)) Q E s := by
  obtain ⟨oI, eI, hoI⟩ := it.obj
  have sb : ∀ {h'}, Heap.SameBut I s.heap h' → Ext1 I s.heap h' := fun q => ⟨Nat.le_of_eq q.1.symm, fun b o hb e' => (q.2 b hb).trans e'⟩
  cases it with
  | @ref l hi =>
    have hl : l < σ.length := hs
    obtain ⟨xs, hxs, e'⟩ := Option.map_eq_some_iff.mp (show (itemsAt σ l).map (fun xs => xs[j]?) = some r from e)
    obtain ⟨_, its, ⟨n, hp⟩, ha⟩ := R.list hxs
    have hL : s.heap.IsList (ρ l) its.toArray := ⟨_, hp, rfl, n, rfl⟩
    subst e'
    cases hx : xs[j]? with
    | some v =>
      obtain ⟨a, h1, h2⟩ := ha.get hx
      refine wpAny_pyNext_list_item hi hL (by simpa using h1) fun h' hi' hsb => ?_
      exact hsome v a h' s.toks hx (h2.mono (Nat.le_refl _) (fun _ _ => rfl) ((sb hsb).still eI hoI)) (.ref hi') (sb hsb)
    | none =>
      have : its.toArray[j]? = none := by
        have hlen := ha.length
        rw [List.getElem?_eq_none_iff] at hx
        simp; (first | lia | omega)
      refine wpAny_sized (wpAny_pyNext_list_end hh hi hL this fun h' hext hsz => ?_)
      exact hnone h' s.toks hx ⟨hsz, fun b o hb e' => hext b o hb e'⟩
  | @tup xs t items hi ht hr =>
    have e' : r = xs[j]?.map V.d := (Option.some.inj e).symm
    subst e'
    cases hx : xs[j]? with
    | some v =>
      obtain ⟨a, h1, h2⟩ := hr.get hx
      refine wpAny_pyNext_tuple_item hi ht (by simpa using h1) fun h' hi' hsb => ?_
      have st := (sb hsb).still eI hoI
      obtain ⟨o', t1, t2, n, t3⟩ := ht
      exact hsome (.d v) a h' s.toks (by rw [hx]; rfl) ((Has.d h2).mono (X := X) (n := σ.length) (ρ := ρ) (Nat.le_refl _) (fun _ _ => rfl) st) (.tup hi' ⟨o', st _ _ t1 (.tuple t2 t3), t2, n, t3⟩ (hr.to (fun _ _ _ q => q) fun b o e hc hs _ => let ⟨_, _, hd⟩ := hs; st b o e (.tuple hc hd))) (sb hsb)
    | none =>
      have : items[j]? = none := by
        have hlen := SeqAt.ReadsAll.length _ _ _ hr.reads
        rw [List.getElem?_eq_none_iff] at hx
        simp at hlen ⊢; (first | lia | omega)
      refine wpAny_sized (wpAny_pyNext_tuple_end hh hi ht this fun h' hext hsz => ?_)
      exact hnone h' s.toks (by rw [hx]; rfl) ⟨hsz, fun b o hb e' => hext b o hb e'⟩
  | @rng lo hi hit =>
    have e' : r = if lo + j < hi then some (.d (.int (lo + j))) else none := (Option.some.inj e).symm
    subst e'
    have hsize : Builtin.Range.rangeSize lo hi 1 = if lo < hi then hi - lo else 0 := by
      unfold Builtin.Range.rangeSize
      simp only [show (1 : Int) > 0 by decide, if_true]
      split
      · rw [Int.ediv_one]; (first | lia | omega)
      · rfl
    by_cases hlt : lo + j < hi
    · refine wpAny_pyNext_range_item hit (by rw [hsize, if_pos (by (first | lia | omega))]; (first | lia | omega)) fun h' hi' hsb => ?_
      refine hsome _ _ h' _ (if_pos hlt) (.ofInt ..) (.rng ?_) (sb hsb)
      have e1 : lo + (j : Int) + 1 = lo + ((j + 1 : Nat) : Int) := by (first | lia | omega)
      have e2 : Builtin.Range.rangeSize lo hi 1 - (j : Int) - 1 = Builtin.Range.rangeSize lo hi 1 - ((j + 1 : Nat) : Int) := by (first | lia | omega)
      rw [← e1, ← e2]; exact hi'
    · refine wpAny_sized (wpAny_pyNext_range_end hh hit (by rw [hsize]; split <;> (first | lia | omega)) fun h' hext hsz => ?_)
      exact hnone h' s.toks (if_neg hlt) ⟨hsz, fun b o hb e' => hext b o hb e'⟩
end
end Mine

set_option Elab.async false
set_option autoImplicit false
set_option linter.unusedVariables false
namespace Mine
open PySem PySem.Spec PySem.Calls PyProof.Rows
theorem upd_upd (m : Loc) (x : Str) (u v : V) : upd (upd m x u) x v = upd m x v := by
  funext y; unfold upd; split <;> rfl
section
variable {X : Cx} {σ σ' : Store} {ρ ρ' : Nat → Addr} {h h' h'' : Heap} {D : Addr} {env : Env} {sc : Kinds} {m : Loc}
theorem Rep.but (R : Rep X ρ σ h) (x : Ext1 D h h') (hn : ∀ o, h.get? D = some o → ¬ Still o) (hc : ∀ i, i < σ.length → ρ i ≠ D) (hb : X.B.get? D = none) : Rep X ρ σ h' where
  base := fun b o' e' => x.keep b o' (fun q => by subst q; rw [hb] at e'; cases e') (R.base b o' e')
  cell := fun i c hc' => by
    obtain ⟨oc, its, hp, sh, ha⟩ := R.cell i c hc'
    exact ⟨oc, its, x.keep _ _ (hc i (List.getElem?_eq_some_iff.mp hc').1) hp, sh.mono (fun b o e hs => x.keep b o (fun q => hn o (q ▸ e) hs) e), ha.mono (Nat.le_refl _) (fun _ _ => rfl) fun b o e hs => x.keep b o (fun q => hn o (q ▸ e) hs) e⟩
  own := R.own
  inj := R.inj
  bad := R.badKeep fun b o e hs => x.keep b o (fun q => hn o (q ▸ e) hs) e
theorem Ext1.still' (x : Ext1 D h h') (hn : ∀ o, h.get? D = some o → ¬ Still o) : ∀ b o, h.get? b = some o → Still o → h'.get? b = some o :=
  fun b o e hs => x.keep b o (fun q => hn o (q ▸ e) hs) e
theorem Frm.but {n : Nat} (F : Frm X env sc m n ρ h) (x : Ext1 D h h') (hn : ∀ o, h.get? D = some o → ¬ Still o ∧ NoDict o ∧ ∀ v, o.data ≠ .cell v) : Frm X env sc m n ρ h' := by
  have st := x.still' fun o e => (hn o e).1
  have hv : ∀ {v a}, Has X n ρ h v a → Has X n ρ h' v a := fun q => q.mono (Nat.le_refl _) (fun _ _ => rfl) st
  have hc : ∀ c ov, h.IsCell c ov → h'.IsCell c ov := fun c ov ⟨o', e', d⟩ => ⟨o', x.keep _ _ (fun q => (hn o' (q ▸ e')).2.2 _ d) e', d⟩
  refine { F with ns := ?_, cells := ?_, isCells := ?_ }
  · obtain ⟨mm, ⟨o', es, ep, e', d, r⟩, hm⟩ := F.ns
    exact ⟨mm, ⟨o', es, ep, x.keep _ _ (fun q => (hn o' (q ▸ e')).2.1 es ep d) e', d, r⟩, fun y v h1 h2 => let ⟨a, h3, h4⟩ := hm y v h1 h2; ⟨a, h3, hv h4⟩⟩
  · intro y hy
    obtain ⟨c, ov, h1, h2, h3⟩ := F.cells y hy
    exact ⟨c, ov, h1, hc c ov h2, fun v q => let ⟨a, h4, h5⟩ := h3 v q; ⟨a, h4, hv h5⟩⟩
  · intro y c hy
    obtain ⟨ov, h1⟩ := F.isCells y c hy
    exact ⟨ov, hc c ov h1⟩
theorem Ar.but {k : Nat} {A : Around} (a : Ar X k A env h) (x : Ext1 D h h') (hn : ∀ o, h.get? D = some o → NoDict o) : Ar X k A env h' := by
  refine { a with stack := ?_ }
  obtain ⟨f, ou, h1, h2, h3⟩ := a.stack
  refine ⟨f, ou, h1, h2, fun env he => ?_⟩
  obtain ⟨q1, L, o', es, n, q2, q3, q4, q5⟩ := h3 env he
  exact ⟨q1, L, o', es, n, q2, q3, x.keep _ _ (fun q => hn o' (q ▸ q4) es n q5) q4, q5⟩
theorem Ext1.ofSame (q : Heap.SameBut D h h') : Ext1 D h h' := ⟨Nat.le_of_eq q.1.symm, fun b o hb e => (q.2 b hb).trans e⟩
theorem Still.notNs {o : Obj} {es n} (hd : o.data = .dict es n) : ¬ Still o := fun s => s.nodict es n hd
theorem Still.notCell {o : Obj} {v} (hd : o.data = .cell v) : ¬ Still o := fun s => s.nocell v hd
theorem Still.notList {o : Obj} (hc : o.cls = .type "list") : ¬ Still o := fun s => s.cls hc
theorem Rep.lt (R : Rep X ρ σ h) {i : Nat} (hi : i < σ.length) : ρ i < h.objs.size := by
  obtain ⟨_, _, hp, _, _⟩ := R.cell i _ (List.getElem?_eq_getElem hi)
  exact Heap.lt_size hp
theorem Rep.adopt (R : Rep X ρ σ h) {vs : List V} {items : List Value} {n : Nat} (hD : h.get? D = some { cls := .type "list", data := .seq items.toArray n }) (hv : HasAll X σ.length ρ h vs items)
    (hc : ∀ i, i < σ.length → ρ i ≠ D) (hb : X.B.get? D = none) :
    ∃ ρ', Rep X ρ' (σ ++ [.lst vs]) h ∧ (∀ i, i < σ.length → ρ' i = ρ i) ∧ ρ' σ.length = D := by
  let ρ' := fun i => if i = σ.length then D else ρ i
  have hρ : ∀ i, i < σ.length → ρ' i = ρ i := fun i hi => if_neg (Nat.ne_of_lt hi)
  have hD' : ρ' σ.length = D := if_pos rfl
  have last : ∀ {i c}, (σ ++ [Cell.lst vs])[i]? = some c → ¬ i < σ.length → i = σ.length := fun {i c} hc hi => by
    have := (List.getElem?_eq_some_iff.mp hc).1
    simp at this; (first | lia | omega)
  refine ⟨ρ', ⟨R.base, ?_, ?_, ?_, R.bad⟩, hρ, hD'⟩
  · intro i c hc'
    by_cases hi : i < σ.length
    · rw [List.getElem?_append_left hi] at hc'
      obtain ⟨oc, its, hp, sh, ha⟩ := R.cell i c hc'
      rw [hρ i hi]
      exact ⟨oc, its, hp, sh, ha.mono (by simp) hρ fun _ _ e _ => e⟩
    · have hi' := last hc' hi
      subst hi'
      simp at hc'; subst hc'
      rw [hD']
      exact ⟨_, items, hD, ⟨n, rfl⟩, hv.mono (by simp) hρ fun _ _ e _ => e⟩
  · intro i c hc' ho
    by_cases hi : i < σ.length
    · rw [List.getElem?_append_left hi] at hc'; rw [hρ i hi]; exact R.own i c hc' ho
    · rw [last hc' hi, hD']; exact hb
  · intro i j hi hj e
    simp only [List.length_append, List.length_cons, List.length_nil] at hi hj
    by_cases h1 : i = σ.length <;> by_cases h2 : j = σ.length
    · (first | lia | omega)
    · rw [h1, hD', hρ j (by (first | lia | omega))] at e; exact absurd e.symm (hc j (by (first | lia | omega)))
    · rw [h2, hD', hρ i (by (first | lia | omega))] at e; exact absurd e (hc i (by (first | lia | omega)))
    · rw [hρ i (by (first | lia | omega)), hρ j (by (first | lia | omega))] at e; exact R.inj i j (by (first | lia | omega)) (by (first | lia | omega)) e
end
section
variable {X : Cx} {k : Nat} {env : Env} {sc : Kinds} {m : Loc} {σ : Store} {A : Around} {s : Shared} {ρ : Nat → Addr} {E : Value → Shared → Prop} {Q : Unit → Shared → Prop}
theorem storeLocal_sound {x : Str} {v : V} {a : Value} (R : Rep X ρ σ s.heap) (F : Frm X env sc m σ.length ρ s.heap) (hx : sc x = some .local) (hv : Has X σ.length ρ s.heap v a)
    (h : ∀ h' tk, Rep X ρ σ h' → Go (· = env.locals) σ ρ s.heap σ ρ h' → Frm X env sc (upd m x v) σ.length ρ h' → Heap.SameBut env.locals s.heap h' → Q () { s with heap := h', toks := tk }) :
    wpAny (model X.prog X.w) A (storeName env x a) Q E s := by
  obtain ⟨mm, hns, hm⟩ := F.ns
  refine wpAny_storeName_local (F.kinds.loc x hx) hns (fun h' hn' hsb => ?_) (by rw [F.kind]; rfl)
  obtain ⟨oL, esL, epL, eL, dL, rL⟩ := hns
  have ex := Ext1.ofSame hsb
  have hn : ∀ o, s.heap.get? env.locals = some o → ¬ Still o := fun o e => by rw [eL] at e; cases e; exact Still.notNs dL
  have st := ex.still' hn
  have R' := R.but ex hn F.sepL F.newL
  have hv' : ∀ {v a}, Has X σ.length ρ s.heap v a → Has X σ.length ρ h' v a := fun q => q.mono (Nat.le_refl _) (fun _ _ => rfl) st
  have hcell : ∀ c ov, s.heap.IsCell c ov → h'.IsCell c ov := fun c ov ⟨o', e', d⟩ => ⟨o', ex.keep _ _ (fun q => by rw [q, eL] at e'; cases e'; rw [dL] at d; cases d) e', d⟩
  refine h h' _ R' ⟨ex.size, fun b o e hw _ => ⟨o.slots, ex.keep b o hw e, fun _ => rfl⟩, fun b o es n e d => ?_, Nat.le_refl _, fun _ _ => rfl, fun i h1 h2 => absurd h2 (Nat.not_lt.mpr h1)⟩ ?_ hsb
  · by_cases hb : b = env.locals
    · subst hb
      obtain ⟨o', es', ep', e', d', _⟩ := hn'
      exact ⟨o', es', ep', e', d'⟩
    · exact ⟨o, es, n, ex.keep b o hb e, d⟩
  · refine { F with ns := ⟨_, hn', ?_⟩, cells := ?_, isCells := ?_ }
    · intro y u hy hu
      unfold upd at hu
      by_cases hyx : y = x
      · rw [if_pos hyx] at hu; cases hu
        exact ⟨a, if_pos hyx, hv' hv⟩
      · rw [if_neg hyx] at hu
        obtain ⟨b, h1, h2⟩ := hm y u hy hu
        exact ⟨b, by rw [if_neg hyx]; exact h1, hv' h2⟩
    · intro y hy
      obtain ⟨c, ov, h1, h2, h3⟩ := F.cells y hy
      refine ⟨c, ov, h1, hcell c ov h2, fun u hu => ?_⟩
      unfold upd at hu
      by_cases hyx : y = x
      · rw [hyx, hx] at hy; rcases hy with q | q <;> cases q
      · rw [if_neg hyx] at hu
        obtain ⟨b, h4, h5⟩ := h3 u hu
        exact ⟨b, h4, hv' h5⟩
    · intro y c hy
      obtain ⟨ov, h1⟩ := F.isCells y c hy
      exact ⟨ov, hcell c ov h1⟩
theorem store_sound {x : Str} {v : V} {a : Value} (R : Rep X ρ σ s.heap) (F : Frm X env sc m σ.length ρ s.heap) (hx : bindable sc x) (hv : Has X σ.length ρ s.heap v a)
    (h : ∀ h' tk, Rep X ρ σ h' → Go (Wr env) σ ρ s.heap σ ρ h' → Frm X env sc (upd m x v) σ.length ρ h' → Q () { s with heap := h', toks := tk }) :
    wpAny (model X.prog X.w) A (storeName env x a) Q E s := by
  rcases hx with hx | hx
  · exact storeLocal_sound R F hx hv fun h' tk R' g F' _ => h h' tk R' (g.weaken fun b _ _ q => .inl q) F'
  · obtain ⟨c, ov, h1, h2, h3⟩ := F.cells x (.inl hx)
    refine wpAny_storeName_cell F.kind (F.kinds.cell x hx) h1 h2 fun h' hc' hsb => ?_
    obtain ⟨oc, ec, dc⟩ := h2
    have ex := Ext1.ofSame hsb
    have hn : ∀ o, s.heap.get? c = some o → ¬ Still o := fun o e => by rw [ec] at e; cases e; exact Still.notCell dc
    have st := ex.still' hn
    have hsep : ∀ i, i < σ.length → ρ i ≠ c := by
      rintro i hi rfl
      obtain ⟨oc', items, hp, sh, _⟩ := R.cell i _ (List.getElem?_eq_getElem hi)
      rw [hp] at ec; cases ec
      rcases sh.is with ⟨_, _, _, q⟩ | ⟨_, _, _, q⟩ | ⟨_, _, q⟩ <;> (rw [q] at dc; cases dc)
    have R' := R.but ex hn hsep (F.newC x c h1)
    have hv' : ∀ {v a}, Has X σ.length ρ s.heap v a → Has X σ.length ρ h' v a := fun q => q.mono (Nat.le_refl _) (fun _ _ => rfl) st
    refine h h' _ R' ⟨ex.size, fun b o e hw _ => ⟨o.slots, ex.keep b o (fun q => hw (.inr ⟨x, q ▸ h1⟩)) e, fun _ => rfl⟩, fun b o es n e d => ?_, Nat.le_refl _, fun _ _ => rfl, fun i h1 h2 => absurd h2 (Nat.not_lt.mpr h1)⟩ ?_
    · exact ⟨o, es, n, ex.keep b o (fun q => by rw [q, ec] at e; cases e; rw [dc] at d; cases d) e, d⟩
    · refine { F with ns := ?_, cells := ?_, isCells := ?_ }
      · obtain ⟨mm, ⟨oL, esL, epL, eL, dL, rL⟩, hm⟩ := F.ns
        refine ⟨mm, ⟨oL, esL, epL, ex.keep _ _ (fun q => by rw [q, ec] at eL; cases eL; rw [dc] at dL; cases dL) eL, dL, rL⟩, fun y u hy hu => ?_⟩
        unfold upd at hu
        by_cases hyx : y = x
        · rw [hyx, hx] at hy; cases hy
        · rw [if_neg hyx] at hu
          obtain ⟨b, h4, h5⟩ := hm y u hy hu
          exact ⟨b, h4, hv' h5⟩
      · intro y hy
        by_cases hyx : y = x
        · subst hyx
          refine ⟨c, some a, h1, hc', fun u hu => ?_⟩
          unfold upd at hu
          rw [if_pos rfl] at hu; cases hu
          exact ⟨a, rfl, hv' hv⟩
        · obtain ⟨c', ov', q1, q2, q3⟩ := F.cells y hy
          have hne : c' ≠ c := fun q => hyx (F.apart y x c (q ▸ q1) h1)
          obtain ⟨o', e', d'⟩ := q2
          refine ⟨c', ov', q1, ⟨o', ex.keep _ _ hne e', d'⟩, fun u hu => ?_⟩
          unfold upd at hu
          rw [if_neg hyx] at hu
          obtain ⟨b, h4, h5⟩ := q3 u hu
          exact ⟨b, h4, hv' h5⟩
      · intro y c' hy
        by_cases hne : c' = c
        · subst hne; exact ⟨_, hc'⟩
        · obtain ⟨ov', o', e', d'⟩ := F.isCells y c' hy
          exact ⟨ov', o', ex.keep _ _ hne e', d'⟩
end
end Mine

set_option Elab.async false
set_option autoImplicit false
set_option linter.unusedVariables false
namespace Mine
open PySem PySem.Spec PySem.Calls PyProof.Rows
noncomputable def clos (cells : List (Str × Addr)) : List (Str × NameKind) → List (Str × Addr) → List (Str × Addr)
  | [], acc => acc
  | (n, k) :: r, acc => if k == .free then (match cells.lookup n with | some c => clos cells r ((n, c) :: acc) | none => clos cells r acc) else clos cells r acc
theorem clos_forIn {env : Env} (f : Str × NameKind → List (Str × Addr) → Sem (ForInStep (List (Str × Addr))))
    (hf : ∀ n k cs, f (n, k) cs = if k == .free then (do let c ← cellOf env n; pure (.yield ((n, c) :: cs))) else pure (.yield cs)) :
    ∀ (names : List (Str × NameKind)) (acc : List (Str × Addr)), (∀ y ∈ names, y.2 = .free → ∃ c, env.cells.lookup y.1 = some c) → forIn names acc f = pure (clos env.cells names acc)
  | [], acc, _ => by rw [List.forIn_nil]; rfl
  | (n, k) :: r, acc, h => by
    rw [List.forIn_cons, hf]
    have hr := clos_forIn f hf r
    unfold clos
    by_cases hk : k = .free
    · subst hk
      obtain ⟨c, hc⟩ := h (n, .free) List.mem_cons_self rfl
      simp only [beq_self_eq_true, if_true]
      have : cellOf env n = pure c := by unfold cellOf; rw [hc]
      rw [this, hc]
      exact hr _ fun y hy => h y (List.mem_cons_of_mem _ hy)
    · have hb : (k == NameKind.free) = false := by simpa using hk
      simp only [hb, Bool.false_eq_true, if_false]
      exact hr _ fun y hy => h y (List.mem_cons_of_mem _ hy)
theorem closureFor_eq {env : Env} {scope : Scope} (h : ∀ y ∈ scope.names, y.2 = .free → ∃ c, env.cells.lookup y.1 = some c) : closureFor scope env = pure (clos env.cells scope.names []) := by
  simp only [closureFor]
  rw [clos_forIn (env := env) _ (fun n k cs => by cases hk : k == NameKind.free <;> simp [hk]) scope.names [] h]
  rfl
theorem clos_lookup {cells : List (Str × Addr)} : ∀ (names : List (Str × NameKind)) (acc : List (Str × Addr)), (∀ n c, acc.lookup n = some c → cells.lookup n = some c) → ∀ n c, (clos cells names acc).lookup n = some c → cells.lookup n = some c
  | [], acc, h, n, c, e => h n c e
  | (y, k) :: r, acc, h, n, c, e => by
    unfold clos at e
    split at e
    · split at e
      · rename_i c' hc'
        refine clos_lookup r _ (fun n' c'' q => ?_) n c e
        rw [List.lookup_cons] at q
        cases hb : n' == y with
        | true => rw [hb] at q; cases q; rw [beq_iff_eq.mp hb]; exact hc'
        | false => rw [hb] at q; exact h n' c'' q
      · exact clos_lookup r acc h n c e
    · exact clos_lookup r acc h n c e
theorem clos_isSome {cells : List (Str × Addr)} {n : Str} : ∀ (names : List (Str × NameKind)) (acc : List (Str × Addr)), (acc.lookup n).isSome = true ∨ ((n, NameKind.free) ∈ names ∧ (cells.lookup n).isSome = true) → ((clos cells names acc).lookup n).isSome = true
  | [], acc, h => by
    rcases h with h | h
    · exact h
    · exact absurd h.1 (by simp)
  | (y, k) :: r, acc, h => by
    unfold clos
    split
    · rename_i hk
      split
      · rename_i c hc
        refine clos_isSome r _ ?_
        by_cases hy : (n == y) = true
        · left; rw [List.lookup_cons, hy]; rfl
        · rcases h with h | ⟨h, h'⟩
          · left; rw [List.lookup_cons]; simp only [hy]; exact h
          · rcases List.mem_cons.mp h with e | h
            · cases e; simp at hy
            · exact .inr ⟨h, h'⟩
      · rename_i hc
        refine clos_isSome r _ ?_
        rcases h with h | ⟨h, h'⟩
        · exact .inl h
        · rcases List.mem_cons.mp h with e | h
          · cases e; rw [hc] at h'; cases h'
          · exact .inr ⟨h, h'⟩
    · rename_i hk
      refine clos_isSome r _ ?_
      rcases h with h | ⟨h, h'⟩
      · exact .inl h
      · rcases List.mem_cons.mp h with e | h
        · cases e; simp at hk
        · exact .inr ⟨h, h'⟩
theorem lookup_relabel {env : Env} (hk : env.scope.kind = .function) : ∀ {names : List (Str × NameKind)} {x : Str} {k : NameKind}, names.lookup x = some k →
    (names.map fun (n, k) => if (k == NameKind.free && env.scope.kind == .function && env.kindOf n == some .cell) then (n, NameKind.cell) else (n, k)).lookup x =
      some (if (k == NameKind.free && env.kindOf x == some .cell) then NameKind.cell else k)
  | [], _, _, h => by simp at h
  | (n, k') :: r, x, k, h => by
    have ih := @lookup_relabel env hk r x k
    show List.lookup x ((if (k' == NameKind.free && env.scope.kind == .function && env.kindOf n == some .cell) = true then (n, NameKind.cell) else (n, k')) :: _) = _
    cases hx : x == n with
    | true =>
      simp only [List.lookup_cons, hx] at h
      cases h
      have hxn := beq_iff_eq.mp hx
      subst hxn
      rw [hk]
      by_cases hc : (k' == NameKind.free && env.kindOf x == some .cell) = true
      · have : (k' == NameKind.free && ScopeKind.function == ScopeKind.function && env.kindOf x == some .cell) = true := by simpa using hc
        rw [if_pos this, if_pos hc]; simp
      · have : ¬ (k' == NameKind.free && ScopeKind.function == ScopeKind.function && env.kindOf x == some .cell) = true := by simpa using hc
        rw [if_neg this, if_neg hc]; simp
    | false =>
      simp only [List.lookup_cons, hx] at h
      by_cases hc : (k' == NameKind.free && env.scope.kind == .function && env.kindOf n == some .cell) = true
      · rw [if_pos hc]; simp only [List.lookup_cons, hx]; exact ih h
      · rw [if_neg hc]; simp only [List.lookup_cons, hx]; exact ih h
theorem mem_lookup {α : Type} : ∀ {l : List (Str × α)} {n : Str} {c : α}, l.lookup n = some c → (n, c) ∈ l := fun h => mem_of_lookup h
structure CompOk (sc : Kinds) (scope : Scope) (x : Str) : Prop where
  kind : scope.kind = .function
  loc : scope.names.lookup x = some .local
  nocell : ∀ y ∈ scope.names, y.2 ≠ .cell
  names : ∀ y ∈ scope.names, y.2 = .local → scope.names.lookup y.1 = some .local
  free : ∀ y ∈ scope.names, y.2 = .free → sc y.1 = some .cell ∨ sc y.1 = some .free
  debug : scope.names.lookup ("__debug__" : Str) = none
  classdict : scope.names.lookup ("__classdict__" : Str) = none
theorem compOk_of {sc : Kinds} {scope : Scope} {x : Str} (h : compOkB sc scope x = true) : CompOk sc scope x := by
  unfold compOkB at h
  simp only [Bool.and_eq_true, beq_iff_eq, List.all_eq_true, bne_iff_ne, ne_eq, Bool.or_eq_true, Option.isNone_iff_eq_none] at h
  obtain ⟨⟨⟨⟨h1, h2⟩, h3⟩, h4⟩, h5⟩ := h
  refine ⟨h1, h2, fun y hy => (h3 y hy).1.1, fun y hy hl => ((h3 y hy).1.2).resolve_left (fun q => q hl), fun y hy hf => ?_, h4, h5⟩
  rcases (h3 y hy).2 with (q | q) | q
  · exact absurd hf q
  · exact .inl q
  · exact .inr q
section
variable {X : Cx} {env : Env} {sc : Kinds} {m : Loc} {σ : Store} {ρ : Nat → Addr} {h h' : Heap} {scope : Scope} {x : Str}
theorem Frm.closure (F : Frm X env sc m σ.length ρ h) (ok : CompOk sc scope x) : closureFor scope env = pure (clos env.cells scope.names []) :=
  closureFor_eq fun y hy hf => let ⟨c, _, h1, _⟩ := F.cells y.1 ((ok.free y hy hf)); ⟨c, h1⟩
theorem clos_sub {cells : List (Str × Addr)} {names : List (Str × NameKind)} {n : Str} {c : Addr} (e : (clos cells names []).lookup n = some c) : cells.lookup n = some c :=
  clos_lookup names [] (fun _ _ q => by simp at q) n c e
theorem Frm.comp (F : Frm X env sc m σ.length ρ h) (ok : CompOk sc scope x) {C : Addr} (hns : h.Ns C fun _ => none) (hC : X.B.get? C = none) (hsep : ∀ i, i < σ.length → ρ i ≠ C) :
    Frm X (compEnvC scope (clos env.cells scope.names []) C env) (kindsOf scope.names) (compLoc scope.names m) σ.length ρ h where
  kind := ok.kind
  glob := F.glob
  bi := F.bi
  kinds := {
    loc := fun y hy => lookup_relabel_local hy
    cell := fun y hy => absurd rfl (ok.nocell _ (mem_lookup hy))
    free := fun y hy => by
      have := lookup_relabel (env := env) F.kind hy
      show (relabel scope env).names.lookup y = some .cell ∨ (relabel scope env).names.lookup y = some .free
      unfold relabel
      simp only
      rw [this]
      split
      · exact .inl rfl
      · exact .inr rfl
    glob := fun y hy => by
      have := lookup_relabel (env := env) F.kind hy
      show (relabel scope env).names.lookup y = _
      unfold relabel
      simp only
      rw [this]; rfl
    debug := ok.debug
    classdict := ok.classdict }
  ns := ⟨_, hns, fun y v hy hv => by
    unfold compLoc at hv
    have hy' : scope.names.lookup y = some .local := hy
    rw [hy'] at hv; cases hv⟩
  cells := fun y hy => by
    have hf : scope.names.lookup y = some .free := by
      rcases hy with q | q
      · exact absurd rfl (ok.nocell _ (mem_lookup q))
      · exact q
    obtain ⟨c, ov, h1, h2, h3⟩ := F.cells y (ok.free _ (mem_lookup hf) rfl)
    have hs := clos_isSome (cells := env.cells) (n := y) scope.names [] (.inr ⟨mem_lookup hf, by rw [h1]; rfl⟩)
    obtain ⟨c', hc'⟩ := Option.isSome_iff_exists.mp hs
    have := clos_sub hc'
    rw [h1] at this; cases this
    refine ⟨c, ov, hc', h2, fun v hv => h3 v ?_⟩
    unfold compLoc at hv
    rw [hf] at hv; exact hv
  isCells := fun y c hy => F.isCells y c (clos_sub hy)
  sepL := hsep
  newL := hC
  newC := fun y c hy => F.newC y c (clos_sub hy)
  apart := fun y z c hy hz => F.apart y z c (clos_sub hy) (clos_sub hz)
end
end Mine

set_option Elab.async false
set_option autoImplicit false
set_option linter.unusedVariables false
namespace Mine
open PySem PySem.Spec PySem.Calls PyProof.Rows
section
variable {X : Cx} {σ σ' : Store} {ρ ρ' : Nat → Addr} {h h' h'' : Heap} {env : Env} {sc : Kinds} {m : Loc} {W : Addr → Prop}
theorem Rep.grow (R : Rep X ρ σ h) (hk : ∀ b o, h.get? b = some o → h'.get? b = some o) : Rep X ρ σ h' where
  base := fun b o e => hk _ _ (R.base b o e)
  cell := fun i c hc => let ⟨oc, its, hp, sh, ha⟩ := R.cell i c hc; ⟨oc, its, hk _ _ hp, sh.mono fun b o e _ => hk b o e, ha.mono (Nat.le_refl _) (fun _ _ => rfl) fun b o e _ => hk b o e⟩
  own := R.own
  inj := R.inj
  bad := R.badKeep fun b o e _ => hk b o e
theorem Go.ofGrow (hz : h.objs.size ≤ h'.objs.size) (hk : ∀ b o, h.get? b = some o → h'.get? b = some o) : Go W σ ρ h σ ρ h' :=
  ⟨hz, fun b o e _ _ => ⟨o.slots, hk b o e, fun _ => rfl⟩, fun b o es n e d => ⟨o, es, n, hk _ _ e, d⟩, Nat.le_refl _, fun _ _ => rfl, fun i h1 h2 => absurd h2 (Nat.not_lt.mpr h1)⟩
theorem foldedSet_no {e : Expr} (h : noSet e = true) (v : Value) : foldedSetIterable e env v = pure v := by
  unfold foldedSetIterable
  split
  · exact absurd h (by simp [noSet])
  · rfl
end
section
variable {X : Cx} {k : Nat} {env : Env} {sc : Kinds} {m : Loc} {σ : Store} {K : OutE → Prop} {A : Around} {s : Shared} {ρ : Nat → Addr} {E : Value → Shared → Prop}
noncomputable def SIfs (X : Cx) (k : Nat) (env : Env) (sc : Kinds) (ifs : List Expr) (m : Loc) (σ : Store) (f : Bool → Store → Prop) : Prop :=
  match ifs with
  | [] => f true σ
  | [e] => ST X k env sc (isTrue e env (eval e env)) m σ (fun _ => False) f
  | _ => False
theorem ifs_sound {ifs : List Expr} {f : Bool → Store → Prop} {Q : Bool → Shared → Prop} (hw : SIfs X k env sc ifs m σ f)
    (ar : Ar X k A env s.heap) (R : Rep X ρ σ s.heap) (F : Frm X env sc m σ.length ρ s.heap)
    (h : ∀ b σ' ρ' h' tk, f b σ' → Rep X ρ' σ' h' → Go Nowhere σ ρ s.heap σ' ρ' h' → Ar X k A env h' → Frm X env sc m σ'.length ρ' h' → Q b { s with heap := h', toks := tk }) :
    wpAny (model X.prog X.w) A (forIn ifs true fun c r => if r = true then do let ok ← isTrue c env (eval c env); pure (ForInStep.yield ok) else pure (ForInStep.yield r)) Q E s := by
  match ifs, hw with
  | [], hw => exact wpAny_tests_nil (h true σ ρ s.heap s.toks hw R (.refl ..) ar F)
  | [e], hw => exact wpAny_tests_one ((hw : ST X k env sc _ m σ _ f) A s ρ Q E ar R F h fun _ _ _ _ _ _ hK => hK.elim)
  | _ :: _ :: _, hw => exact (hw : False).elim
inductive CompInv (X : Cx) (k : Nat) (A : Around) (cenv : Env) (sc : Kinds) (m : Loc) (x : Str) (src : V) (s : Shared) (N : Nat) (I : Nat → List V → Store → Prop) (Ia D C : Addr) (σ₁ : Store) (ρ₁ : Nat → Addr) (h₁ : Heap) (c : Nat) : Shared → Prop
  | mk {kk : Nat} {acc : List V} {σ' : Store} {ρ' : Nat → Addr} {h' : Heap} {tk : Nat} {mm : Loc} {items : List Value} {nD : Nat} : kk ≤ N → c = N + 1 - kk → I kk acc σ' → Rep X ρ' σ' h' → Go (· = C) σ₁ ρ₁ h₁ σ' ρ' h' → Frm X cenv sc mm σ'.length ρ' h' → (∀ v, upd mm x v = upd m x v) →
      IterAt X.bad ρ' h' Ia kk src → h'.get? D = some { cls := .type "list", data := .seq (List.toArray items) nD } → HasAll X σ'.length ρ' h' acc items → (∀ i, i < σ'.length → ρ' i ≠ D) → Ar X k A cenv h' → CompInv X k A cenv sc m x src s N I Ia D C σ₁ ρ₁ h₁ c { s with heap := h', toks := tk }
theorem comp_core {elt iter : Expr} {x : Str} {px pos pos' : Pos} {ifs : List Expr} {scope : Scope} {use : Option (Value → Sem Unit)} {Q : Value → Shared → Prop}
    (hroom : 100 ≤ k) (ok : CompOk sc scope x) (hset : noSet iter = true)
    (hw : SE X k env sc (eval iter env) m σ (thenE fun src σ => ∃ (N : Nat) (I : Nat → List V → Store → Prop), N ≤ 1000000 ∧ I 0 [] σ ∧
          (∀ j acc σ, j < N → I j acc σ → ∃ v, srcNext σ src j = some (some v) ∧ acc.length ≤ j ∧ ∀ env',
            SIfs X k env' (kindsOf scope.names) ifs (upd (compLoc scope.names m) x v) σ fun b σ => if b then SE X k env' (kindsOf scope.names) (eval elt env') (upd (compLoc scope.names m) x v) σ (noExn fun w σ => I (j + 1) (acc ++ [w]) σ) else I (j + 1) acc σ) ∧
          (∀ acc σ, I N acc σ → srcNext σ src N = some none ∧ K (.val (.ref σ.length) (σ ++ [.lst acc])))))
    (ar : Ar X k A env s.heap) (R : Rep X ρ σ s.heap) (F : Frm X env sc m σ.length ρ s.heap) (er : ErE X env.frame σ ρ s K E)
    (fin : ∀ acc σ' ρ' C h' tk mC, K (.val (.ref σ'.length) (σ' ++ [.lst acc])) → Rep X ρ' (σ' ++ [.lst acc]) h' → Go Nowhere σ ρ s.heap (σ' ++ [.lst acc]) ρ' h' → h'.Ns C mC → s.heap.objs.size ≤ C →
      (∀ i, i < (σ' ++ [Cell.lst acc]).length → ρ' i ≠ C) → X.B.get? C = none → compPost (model X.prog X.w) A E use Q (.ref (ρ' σ'.length)) C (.ok .next) { s with heap := h', toks := tk }) :
    wpAny (model X.prog X.w) A (comprehension (.ListComp elt [⟨.Name x px, iter, ifs, 0⟩] scope pos) scope env pos' (newList []) false (eval iter env) use) Q E s := by
  refine wpAny_comprehension_free rfl (fun v => foldedSet_no hset v) (F.closure ok) ok.kind ok.names ?_
  refine SE.andThen hw ar R F er fun src σ₁ ρ₁ a h₁ tk₁ hf R₁ g₁ hsrc ar₁ F₁ => ?_
  obtain ⟨N, I, hN, h0, hstep, hend⟩ := hf
  have hIs : IsSrc σ₁ src := by
    by_cases hN0 : 0 < N
    · obtain ⟨v, hv, _⟩ := hstep 0 [] σ₁ hN0 h0
      exact isSrc_of hv
    · have : N = 0 := by (first | lia | omega)
      subst this
      exact isSrc_of (hend [] σ₁ h0).1
  have hso := srcOk_of hsrc
  refine iter_sound (s := { s with heap := h₁, toks := tk₁ }) hIs R₁ hsrc fun h₂ it₂ hpush => ?_
  obtain ⟨o₂, rfl⟩ := hpush
  refine wpAny_newObj_type (wpAny_newFunctionEnv ok.nocell (by intro y hy; simp at hy) (fun h₃ hns₃ hsb₃ => ?_) ok.kind)
  dsimp only at hns₃ hsb₃ ⊢
  generalize hIa : h₁.objs.size = Ia at *
  generalize hH2 : (h₁.push o₂).push { cls := .type "list", dict := none, data := .seq ([] : List Value).toArray } = H2 at hns₃ hsb₃ ⊢
  generalize hD : (h₁.push o₂).objs.size = D at *
  generalize hC : H2.objs.size = C at *
  have hD' : D = Ia + 1 := by rw [← hD, Heap.size_push, hIa]
  have hC' : C = Ia + 2 := by rw [← hC, ← hH2, Heap.size_push, Heap.size_push, hIa]
  have k₁₂ : ∀ b o, h₁.get? b = some o → H2.get? b = some o := fun b o e => by rw [← hH2]; exact Heap.get?_push_of_some _ (Heap.get?_push_of_some _ e)
  have keep₃ : ∀ b o, H2.get? b = some o → h₃.get? b = some o := fun b o e => hsb₃.extBut b o (Nat.ne_of_lt (hC ▸ Heap.lt_size e)) (Heap.get?_push_of_some _ e)
  have keep₁₃ : ∀ b o, h₁.get? b = some o → h₃.get? b = some o := fun b o e => keep₃ b o (k₁₂ b o e)
  have hz₃ : h₁.objs.size ≤ h₃.objs.size := by
    have e1 := hsb₃.1
    rw [Heap.size_push, hC] at e1
    rw [e1, hIa, hC']
    exact Nat.le_add_right _ 3
  have R₃ : Rep X ρ₁ σ₁ h₃ := R₁.grow keep₁₃
  have g₃ : Go (· = C) σ₁ ρ₁ h₁ σ₁ ρ₁ h₃ := .ofGrow hz₃ keep₁₃
  have F₁₃ : Frm X env sc m σ₁.length ρ₁ h₃ := F₁.go R₁ (.ofGrow hz₃ keep₁₃)
  have hlt₁ : ∀ i, i < σ₁.length → ρ₁ i < Ia := fun i hi => hIa ▸ R₁.lt hi
  have hbase : ∀ a, Ia ≤ a → X.B.get? a = none := fun a ha => by
    cases e : X.B.get? a with
    | none => rfl
    | some o => exact absurd (Heap.lt_size (R₁.base _ _ e)) (Nat.not_lt.mpr (hIa ▸ ha))
  have hns₃' : h₃.Ns C fun _ => none := by simpa using hns₃
  have F₃ := F₁₃.comp ok hns₃' (hbase C (by rw [hC']; exact Nat.le_add_right _ _)) fun i hi => Nat.ne_of_lt (Nat.lt_of_lt_of_le (hlt₁ i hi) (by rw [hC']; exact Nat.le_add_right _ _))
  have ar₃ : Ar X k A (compEnvC scope (clos env.cells scope.names []) C env) h₃ := (ar₁.go (.ofGrow (W := Nowhere) (σ := σ₁) (ρ := ρ₁) hz₃ keep₁₃)).reframe rfl
  have it₃ : IterAt X.bad ρ₁ h₃ Ia 0 src := it₂.mono hso (fun _ _ => rfl) (fun o e _ => keep₃ _ _ (by rw [← hH2]; exact Heap.get?_push_of_some _ e)) fun b o e _ => keep₃ _ _ (by rw [← hH2]; exact Heap.get?_push_of_some _ e)
  have hD₃ : h₃.get? D = some { cls := .type "list", data := .seq ([] : List Value).toArray 0 } := keep₃ _ _ (by rw [← hH2, ← hD]; exact Heap.get?_push_size _ rfl)
  have loop : ∀ s₃ : Shared, s₃ = { s with heap := h₃, toks := tk₁ } →
      codeAny (model X.prog X.w) A (.compLoop (.ListComp elt [⟨.Name x px, iter, ifs, 0⟩] scope pos) 0 (.ref Ia) (.ref D) (compEnvC scope (clos env.cells scope.names []) C env))
        (compPost (model X.prog X.w) A E use Q (.ref D) C) s₃ := by
    rintro s₃ rfl
    refine codeAny_compLoop_tests (CompInv X k A (compEnvC scope (clos env.cells scope.names []) C env) (kindsOf scope.names) (compLoc scope.names m) x src s N I Ia D C σ₁ ρ₁ h₁)
      ?_ (N + 1) (.mk (kk := 0) (acc := []) (items := []) (nD := 0) (Nat.zero_le _) rfl h0 R₃ g₃ F₃ (fun _ => rfl) it₃ hD₃ .nil (fun i hi => Nat.ne_of_lt (Nat.lt_of_lt_of_le (hlt₁ i hi) (by rw [hD']; exact Nat.le_succ _))) ar₃)
    rintro c _ @⟨kk, acc, σ', ρ', h', tk, mm, items, nD, hkk, rfl, hI, R', g', F', hmm, it', hDo, hall, hsepD, ar'⟩
    have hso' : SrcOk σ'.length src := by
      cases src <;> first | exact trivial | exact Nat.lt_of_lt_of_le hso g'.len
    obtain ⟨oI, eI, hoI⟩ := it'.obj
    have hIaB : X.B.get? Ia = none := hbase Ia (Nat.le_refl _)
    have hDI : D ≠ Ia := by rw [hD']; exact Nat.succ_ne_self _
    have hDC : D ≠ C := by rw [hD', hC']; exact Nat.ne_of_lt (Nat.lt_succ_self _)
    by_cases hlt : kk < N
    · obtain ⟨v, hnx, hlen, hbody⟩ := hstep kk acc σ' hlt hI
      refine next_sound (s := { s with heap := h', toks := tk }) (ar'.handled hroom) R' it' hso' hnx ?_ ?_
      · rintro v' a h₄ tk₄ hv' hhas it₄ ex
        cases hv'
        have R₄ := R'.ext1 ex eI hoI hIaB
        have F₄ := F'.ext1 ex eI hoI
        have ar₄ := ar'.ext1 ex eI hoI
        have g₄ := g'.ext1 ex (Nat.le_of_eq hIa)
        have hall₄ : HasAll X σ'.length ρ' h₄ acc items := hall.mono (Nat.le_refl _) (fun _ _ => rfl) (ex.still eI hoI)
        have hD₄ := ex.keep _ _ hDI hDo
        refine wpAny_assign_Name (storeLocal_sound (s := { s with heap := h₄, toks := tk₄ }) R₄ F₄ ok.loc hhas fun h₅ tk₅ R₅ g₅ F₅ hsb₅ => ?_)
        rw [hmm] at F₅
        have wC : WOk (· = C) h₄ := fun b o hb e => by
          obtain ⟨_, ⟨o', es, ep, e', d, _⟩, _⟩ := F₄.ns
          have e'' : h₄.get? C = some o' := e'
          rw [← hb, e] at e''; cases e''
          exact .inl ⟨es, ep, d⟩
        have ar₅ := ar₄.go g₅
        have it₅ := it₄.go hso' R₄ g₅ wC
        have hall₅ := hall₄.go R₄ g₅ wC
        have hD₅ : h₅.get? D = some { cls := .type "list", data := .seq (List.toArray items) nD } := (hsb₅.2 D hDC).trans hD₄
        have G₅ := g₄.trans g₅
        refine ifs_sound (s := { s with heap := h₅, toks := tk₅ }) (hbody _) ar₅ R₅ F₅ fun b σ₆ ρ₆ h₆ tk₆ hb R₆ g₆ ar₆ F₆ => ?_
        have hkD : ∀ {σ₀ : Store} {ρ₀ : Nat → Addr} {ha hb : Heap} {σ₁' : Store} {ρ₁' : Nat → Addr}, Go Nowhere σ₀ ρ₀ ha σ₁' ρ₁' hb → (∀ i, i < σ₀.length → ρ₀ i ≠ D) → ha.get? D = some { cls := .type "list", data := .seq (List.toArray items) nD } →
            hb.get? D = some { cls := .type "list", data := .seq (List.toArray items) nD } ∧ ∀ i, i < σ₁'.length → ρ₁' i ≠ D := fun {σ₀ ρ₀ ha hb σ₁' ρ₁'} g hs e => by
          obtain ⟨sl, e1, f1⟩ := g.keep D _ e (fun q => q) fun i hi q => hs i hi q.symm
          rw [f1 (fun es n q => (nomatch q))] at e1
          refine ⟨e1, fun i hi => ?_⟩
          by_cases hl : i < σ₀.length
          · rw [g.ext i hl]; exact hs i hl
          · exact Nat.ne_of_gt (Nat.lt_of_lt_of_le (Heap.lt_size e) (g.new i (Nat.not_lt.mp hl) hi))
        obtain ⟨hD₆, hsep₆⟩ := hkD g₆ hsepD hD₅
        have hall₆ := hall₅.go R₅ g₆ .nowhere
        have it₆ := it₅.go hso' R₅ g₆ .nowhere
        have hso₆ : SrcOk σ₆.length src := by
          cases src <;> first | exact trivial | exact Nat.lt_of_lt_of_le hso' g₆.len
        have G₆ := G₅.trans (g₆.weaken fun _ _ _ q => q.elim)
        cases b with
        | false =>
          simp only [Bool.false_eq_true, if_false] at hb ⊢
          exact ⟨N + 1 - (kk + 1), by (first | lia | omega), .mk (kk := kk + 1) hlt rfl hb R₆ G₆ F₆ (fun w => upd_upd _ _ _ _) it₆ hD₆ hall₆ hsep₆ ar₆⟩
        | true =>
          simp only [if_true] at hb ⊢
          refine hb A { s with heap := h₆, toks := tk₆ } ρ₆ _ _ ar₆ R₆ F₆ (fun w σ₇ ρ₇ y h₇ tk₇ hI₇ R₇ g₇ hw₇ => ?_) fun _ _ _ _ _ _ hK => hK.elim
          obtain ⟨hD₇, hsep₇⟩ := hkD g₇ hsep₆ hD₆
          have hall₇ := hall₆.go R₆ g₇ .nowhere
          have it₇ := it₆.go hso₆ R₆ g₇ .nowhere
          have ar₇ := ar₆.go g₇
          have F₇ := F₆.go R₆ g₇
          have G₇ := G₆.trans (g₇.weaken fun _ _ _ q => q.elim)
          have hsz : (List.toArray items).size ≤ sizeLine := by
            have := hall.length
            rw [sizeLine_eq, List.size_toArray]; (first | lia | omega)
          refine wpAny_list_append_plain (s := { s with heap := h₇, toks := tk₇ }) ⟨nD, hD₇⟩ (fun h₈ hp₈ hsb₈ => ?_) hsz
          obtain ⟨n₈, hD₈⟩ := hp₈
          have ex₈ := Ext1.ofSame hsb₈
          have hnS : ∀ o, h₇.get? D = some o → ¬ Still o ∧ NoDict o ∧ ∀ v, o.data ≠ .cell v := fun o e => by
            rw [hD₇] at e; cases e
            exact ⟨Still.notList rfl, (fun _ _ q => nomatch q), (fun _ q => nomatch q)⟩
          have hDB : X.B.get? D = none := hbase D (by rw [hD']; exact Nat.le_succ _)
          have R₈ := R₇.but ex₈ (fun o e => (hnS o e).1) hsep₇ hDB
          have st₈ := ex₈.still' fun o e => (hnS o e).1
          exact ⟨N + 1 - (kk + 1), by (first | lia | omega), .mk (kk := kk + 1) (items := items ++ [y]) hlt rfl hI₇ R₈ (G₇.ext1 ex₈ (by rw [hD', hIa]; exact Nat.le_succ _)) (F₇.but ex₈ hnS) (fun w => upd_upd _ _ _ _)
            (it₇.mono (n := σ₇.length) (by cases src <;> first | exact trivial | exact Nat.lt_of_lt_of_le hso₆ g₇.len) (fun _ _ => rfl) (fun o e _ => ex₈.keep _ _ (Ne.symm hDI) e) st₈) (by simpa using hD₈)
            ((hall₇.append (.one hw₇)).mono (Nat.le_refl _) (fun _ _ => rfl) st₈) hsep₇ (ar₇.but ex₈ fun o e => (hnS o e).2.1)⟩
      · intro h₄ tk₄ hr; cases hr
    · have hkN : kk = N := by (first | lia | omega)
      subst hkN
      obtain ⟨hnx, hK⟩ := hend acc σ' hI
      refine next_sound (s := { s with heap := h', toks := tk }) (ar'.handled hroom) R' it' hso' hnx (fun _ _ _ _ hr => by cases hr) fun h₄ tk₄ _ ex => ?_
      have R₄ := R'.ext1 ex eI hoI hIaB
      have hall₄ : HasAll X σ'.length ρ' h₄ acc items := hall.mono (Nat.le_refl _) (fun _ _ => rfl) (ex.still eI hoI)
      have hD₄ := ex.keep _ _ hDI hDo
      have g₄ := g'.ext1 ex (Nat.le_of_eq hIa)
      have F₄ := F'.ext1 ex eI hoI
      obtain ⟨mC, hnsC, _⟩ := F₄.ns
      have hDB : X.B.get? D = none := hbase D (by rw [hD']; exact Nat.le_succ _)
      obtain ⟨ρa, Ra, hρa, hDa⟩ := R₄.adopt hD₄ hall₄ hsepD hDB
      have hszD : h₁.objs.size ≤ D := by rw [hD', hIa]; exact Nat.le_succ _
      have Ga : Go (· = C) σ₁ ρ₁ h₁ (σ' ++ [.lst acc]) ρa h₄ :=
        { size := g₄.size, keep := g₄.keep, dicts := g₄.dicts, len := Nat.le_trans g₄.len (by simp), ext := fun i hi => (hρa i (Nat.lt_of_lt_of_le hi g₄.len)).trans (g₄.ext i hi), new := fun i h1 h2 => by
            by_cases hl : i < σ'.length
            · rw [hρa i hl]; exact g₄.new i h1 hl
            · have : i = σ'.length := by simp at h2; (first | lia | omega)
              subst this; rw [hDa]; exact hszD }
      have hCsz : h₁.objs.size ≤ C := by rw [hC', hIa]; exact Nat.le_add_right _ _
      have Ga' : Go Nowhere σ₁ ρ₁ h₁ (σ' ++ [.lst acc]) ρa h₄ := Ga.weaken fun b o e hb => absurd (hb ▸ Heap.lt_size e) (Nat.not_lt.mpr hCsz)
      have := fin acc σ' _ C h₄ tk₄ mC hK Ra (g₁.trans Ga') hnsC (Nat.le_trans g₁.size hCsz) (fun i hi => ?_) (hbase C (by rw [hC']; exact Nat.le_add_right _ _))
      · rw [hDa] at this; exact this
      · by_cases hl : i < σ'.length
        · rw [hρa i hl]; exact F'.sepL i hl
        · have : i = σ'.length := by simp at hi; (first | lia | omega)
          subst this; rw [hDa]; exact hDC
  exact codeAny_compStart_list (loop _ rfl) (iterAgain_sound (s := { s with heap := h₃, toks := tk₁ }) it₃ (loop _ rfl))
end
end Mine

set_option Elab.async false
set_option autoImplicit false
set_option linter.unusedVariables false
namespace Mine
open PySem PySem.Spec PySem.Calls PyProof.Rows
noncomputable def isLocB (sc : Kinds) (x : Str) : Bool := match sc x with
  | some .local | some .cell | some .free => true
  | _ => false
noncomputable def isGlobB (sc : Kinds) (x : Str) : Bool := match sc x with
  | some .globalImplicit => true
  | _ => false
noncomputable def isBindB (sc : Kinds) (x : Str) : Bool := match sc x with
  | some .local | some .cell => true
  | _ => false
theorem isGlob {sc : Kinds} {x : Str} (h : isGlobB sc x = true) : sc x = some .globalImplicit := by
  unfold isGlobB at h; split at h <;> first | assumption | cases h
theorem isBind {sc : Kinds} {x : Str} (h : isBindB sc x = true) : bindable sc x := by
  unfold isBindB at h; split at h <;> first | exact .inl (by assumption) | exact .inr (by assumption) | cases h
theorem isLoc {sc : Kinds} {x : Str} (h : isLocB sc x = true) : sc x = some .local ∨ sc x = some .cell ∨ sc x = some .free := by
  unfold isLocB at h; split at h <;> first | exact .inl (by assumption) | exact .inr (.inl (by assumption)) | exact .inr (.inr (by assumption)) | cases h
noncomputable def ConstIs (X : Cx) (x : Str) (d : PyData) : Prop := ∃ v, X.val x = some v ∧ ∀ h, Reads h v d []
noncomputable def Known (X : Cx) (x : Str) : Prop := ∃ v, X.val x = some v
section
variable {X : Cx} {k : Nat} {env : Env} {sc : Kinds} {m : Loc} {σ : Store} {K : OutE → Prop} {p q : Pos}
theorem zqx {u : Nat} {b : Int} (h : K (.val (.d (.int b)) σ)) : SE X k env sc (eval (.Constant (.int b) u p) env) m σ K := fun A s ρ Q E ar R F ok er => wpAny_Constant_int (ok.same R h (.ofInt ..) _)
theorem zqs {u : Nat} {b : Str} (h : K (.val (.d (.str b)) σ)) : SE X k env sc (eval (.Constant (.str b) u p) env) m σ K := fun A s ρ Q E ar R F ok er => Calls.Constant_str (ok.same R h (.ofStr ..) _)
theorem zqv {u : Nat} {b : Bool} (h : K (.val (.d (.bool b)) σ)) : SE X k env sc (eval (.Constant (.bool b) u p) env) m σ K := fun A s ρ Q E ar R F ok er => wpAny_pure (ok.same R h (.ofBool _) s.toks)
theorem zqaw {x : Str} {v : V} (h1 : isLocB sc x = true) (hm : m x = some v) (hK : K (.val v σ)) : SE X k env sc (eval (.Name x p) env) m σ K := by
  intro A s ρ Q E ar R F hQ er
  have cellCase : ∀ kd, sc x = some kd → (kd = .cell ∨ kd = .free) → wpAny (model X.prog X.w) A (eval (.Name x p) env) Q E s := by
    rintro kd hsc hkd
    obtain ⟨c, ov, h1, h2, h3⟩ := F.cells x (by rcases hkd with rfl | rfl <;> simp [hsc])
    obtain ⟨a, rfl, hv⟩ := h3 v hm
    refine wpAny_Name ?_ (F.kinds.notDebug hsc)
    have : env.kindOf x = some .cell ∨ env.kindOf x = some .free := by
      rcases hkd with rfl | rfl
      · exact .inl (F.kinds.cell x hsc)
      · exact F.kinds.free x hsc
    rcases this with h | h
    · exact wpAny_loadName_cell F.kind h h1 h2 (hQ.same R hK hv s.toks)
    · exact wpAny_loadName_free F.kind h h1 h2 (hQ.same R hK hv s.toks) (F.kinds.notClassdict hsc)
  rcases isLoc h1 with hsc | hsc | hsc
  · obtain ⟨mm, hn, hl⟩ := F.ns
    obtain ⟨a, h1, h2⟩ := hl x v hsc hm
    exact wpAny_Name (wpAny_loadName_local F.kind (F.kinds.loc x hsc) hn h1 (hQ.same R hK h2 s.toks)) (F.kinds.notDebug hsc)
  · exact cellCase _ hsc (.inl rfl)
  · exact cellCase _ hsc (.inr rfl)
theorem zqbc {x : Str} {d : PyData} (cx : CxOk X) (h1 : isGlobB sc x = true) (h2 : ConstIs X x d) (h : K (.val (.d d) σ)) : SE X k env sc (eval (.Name x p) env) m σ K := fun A s ρ Q E ar R F ok er =>
  let ⟨v, h3, h4⟩ := h2
  glob_sound cx R F (isGlob h1) h3 (ok.same R h (.d (rdc_of_all h4)) s.toks)
theorem zqbw {x : Str} (cx : CxOk X) (h1 : isGlobB sc x = true) (h2 : Known X x) (h : K (.val (.glob x) σ)) : SE X k env sc (eval (.Name x p) env) m σ K := fun A s ρ Q E ar R F ok er =>
  let ⟨v, h3⟩ := h2
  glob_sound cx R F (isGlob h1) h3 (ok.same R h (.glob h3) s.toks)
theorem zqas {l r : Expr} {op : Operator} (hw : SE X k env sc (eval l env) m σ (thenE fun a σ => SE X k env sc (eval r env) m σ (thenE fun b σ => binW X op a b σ K))) : SE X k env sc (eval (.BinOp l op r p) env) m σ K := by
  intro A s ρ Q E ar R F hok er
  refine wpAny_BinOp (SE.andThen hw ar R F er fun a σ₁ ρ₁ va h₁ tk hf R₁ g₁ ha ar₁ F₁ => ?_)
  refine SE.andThen (s := { s with heap := h₁, toks := tk }) hf ar₁ R₁ F₁ (er.after g₁) fun b σ₂ ρ₂ vb h₂ tk₂ hf₂ R₂ g₂ hb ar₂ F₂ => ?_
  exact bin_sound hf₂ R₂ (ha.go R₁ g₂ .nowhere) hb (hok.after (g₁.trans g₂))
theorem zqbm {x : Expr} {op : UnaryOp} (hw : SE X k env sc (eval x env) m σ (thenE fun a σ => unW X op a σ K)) : SE X k env sc (eval (.UnaryOp op x p) env) m σ K := by
  intro A s ρ Q E ar R F hok er
  refine wpAny_UnaryOp (SE.andThen hw ar R F er fun a σ₁ ρ₁ va h₁ tk hf R₁ g₁ ha ar₁ F₁ => ?_)
  exact un_sound hf R₁ ha (hok.after g₁)
noncomputable def SBs (X : Cx) (k : Nat) (env : Env) (sc : Kinds) (op : BoolOp) (es : List Expr) (m : Loc) (σ : Store) (K : OutE → Prop) : Prop := ∀ pos, SE X k env sc (boolOp pos op (evalEach es env)) m σ K
theorem zqan {vs : List Expr} {op : BoolOp} (h : SBs X k env sc op vs m σ K) : SE X k env sc (eval (.BoolOp op vs p) env) m σ K := h p
theorem zqbs {op : BoolOp} {e : Expr} (h : SE X k env sc (eval e env) m σ K) : SBs X k env sc op [e] m σ K := fun _ => h
theorem zqw {op : BoolOp} {e e' : Expr} {r : List Expr} (hw : SE X k env sc (eval e env) m σ (thenE fun v σ => ∃ b, truthW v = some b ∧ (match op, b with
      | .And, false | .Or, true => K (.val v σ)
      | _, _ => SBs X k env sc op (e' :: r) m σ K))) : SBs X k env sc op (e :: e' :: r) m σ K := by
  intro pos A s ρ Q E ar R F ok er
  show wpAny _ A (eval e env >>= fun v => standAt pos >>= fun _ => holding [v] (truthy v) >>= fun t => _) Q E s
  refine wpAny_bind (SE.andThen hw ar R F er fun v σ₁ ρ₁ a h₁ tk hf R₁ g₁ hv ar₁ F₁ => ?_)
  obtain ⟨b, ht, hf⟩ := hf
  refine wpAny_bind (wpAny_standAt (wpAny_bind (wpAny_holding (truth_sound ht hv ?_))))
  have go : SBs X k env sc op (e' :: r) m σ₁ K → wpAny (model X.prog X.w) A (boolOp pos op (evalEach (e' :: r) env)) Q E { s with heap := h₁, toks := tk } :=
    fun hw' => hw' pos A { s with heap := h₁, toks := tk } ρ₁ Q E ar₁ R₁ F₁ (ok.after g₁) (er.after g₁)
  cases op <;> cases b <;> dsimp only at hf ⊢
  · exact wpAny_pure (ok _ _ _ _ _ _ hf R₁ g₁ hv)
  · exact go hf
  · exact go hf
  · exact wpAny_pure (ok _ _ _ _ _ _ hf R₁ g₁ hv)
theorem zqbi {e e' : Expr} {r : List Expr} (h : SE X k env sc (eval e env) m σ (thenE fun v σ => ∃ b, truthW v = some b ∧ (if b then SBs X k env sc .And (e' :: r) m σ K else K (.val v σ)))) : SBs X k env sc .And (e :: e' :: r) m σ K := by
  refine zqw ?_
  have e : (fun v σ => ∃ b, truthW v = some b ∧ (if b then SBs X k env sc .And (e' :: r) m σ K else K (.val v σ)) : V → Store → Prop) = fun v σ => ∃ b, truthW v = some b ∧ (match BoolOp.And, b with
      | .And, false | .Or, true => K (.val v σ)
      | _, _ => SBs X k env sc .And (e' :: r) m σ K) := by funext v σ; congr 1; funext b; cases b <;> rfl
  rw [← e]; exact h
theorem zqar {e e' : Expr} {r : List Expr} (h : SE X k env sc (eval e env) m σ (thenE fun v σ => ∃ b, truthW v = some b ∧ (if b then K (.val v σ) else SBs X k env sc .Or (e' :: r) m σ K))) : SBs X k env sc .Or (e :: e' :: r) m σ K := by
  refine zqw ?_
  have e : (fun v σ => ∃ b, truthW v = some b ∧ (if b then K (.val v σ) else SBs X k env sc .Or (e' :: r) m σ K) : V → Store → Prop) = fun v σ => ∃ b, truthW v = some b ∧ (match BoolOp.Or, b with
      | .And, false | .Or, true => K (.val v σ)
      | _, _ => SBs X k env sc .Or (e' :: r) m σ K) := by funext v σ; congr 1; funext b; cases b <;> rfl
  rw [← e]; exact h
theorem cmp1 {op : CmpOp} {e : Expr} {a : V} {va : Value} {f : Bool → Store → Prop} {pos : Pos} {A : Around} {s : Shared} {ρ : Nat → Addr} {Q : Value → Shared → Prop} {E : Value → Shared → Prop} (h1 : behindInMarks op e = false) (hw : SE X k env sc (eval e env) m σ (thenE fun b σ => cmpW X op a b σ fun r => f r σ))
    (ar : Ar X k A env s.heap) (R : Rep X ρ σ s.heap) (F : Frm X env sc m σ.length ρ s.heap) (hv : Has X σ.length ρ s.heap a va) (er : ErE X env.frame σ ρ s K E)
    (h : ∀ r σ' ρ' h' tk, f r σ' → Rep X ρ' σ' h' → Go Nowhere σ ρ s.heap σ' ρ' h' → Ar X k A env h' → Frm X env sc m σ'.length ρ' h' → Q (.bool r) { s with heap := h', toks := tk }) :
    wpAny (model X.prog X.w) A (holding [va] (markedBehindIn op e (eval e env)) >>= fun rv => standAt pos >>= fun _ => operate [va, rv] (compareOp op va rv)) Q E s := by
  rw [markedBehindIn_of_false h1]
  refine wpAny_bind (wpAny_holding (SE.andThen hw ar R F er fun b σ₁ ρ₁ vb h₁ tk hf R₁ g₁ hb ar₁ F₁ => ?_))
  exact wpAny_bind (wpAny_standAt (wpAny_operating (cmp_sound hf ar₁ R₁ (hv.go R g₁ .nowhere) hb fun r hr => h r σ₁ ρ₁ h₁ tk hr R₁ g₁ ar₁ F₁)))
theorem cmp2 {op : CmpOp} {e : Expr} {a : V} {va : Value} {g : V → Bool → Store → Prop} {pos : Pos} {A : Around} {s : Shared} {ρ : Nat → Addr} {α : Type} {Q : α → Shared → Prop} {E : Value → Shared → Prop} {next : Value → Sem α} {no : Value → Sem α} (hw : SE X k env sc (eval e env) m σ (thenE fun b σ => cmpW X op a b σ fun r => g b r σ))
    (ar : Ar X k A env s.heap) (R : Rep X ρ σ s.heap) (F : Frm X env sc m σ.length ρ s.heap) (hv : Has X σ.length ρ s.heap a va) (er : ErE X env.frame σ ρ s K E)
    (h : ∀ b vb r σ' ρ' h' tk, g b r σ' → Rep X ρ' σ' h' → Go Nowhere σ ρ s.heap σ' ρ' h' → Has X σ'.length ρ' h' b vb → Ar X k A env h' → Frm X env sc m σ'.length ρ' h' → wpAny (model X.prog X.w) A (if r = true then next vb else no (.bool r)) Q E { s with heap := h', toks := tk }) :
    wpAny (model X.prog X.w) A (holding [va] (eval e env) >>= fun rv => standAt pos >>= fun _ => holding [va, rv] (compareOp op va rv) >>= fun c => release [va, rv] [c] >>= fun _ => holding [c, rv] (truthy c) >>= fun t => if t = true then next rv else no c) Q E s := by
  refine wpAny_bind (wpAny_holding (SE.andThen hw ar R F er fun b σ₁ ρ₁ vb h₁ tk hf R₁ g₁ hb ar₁ F₁ => ?_))
  refine wpAny_bind (wpAny_standAt (wpAny_bind (wpAny_holding (cmp_sound hf ar₁ R₁ (hv.go R g₁ .nowhere) hb fun r hr => ?_))))
  exact wpAny_bind (release_any (wpAny_bind (wpAny_holding (wpAny_truthy_bool (h b vb r σ₁ ρ₁ h₁ tk hr R₁ g₁ hb ar₁ F₁)))))
theorem zqbf {l e : Expr} {op : CmpOp} (h1 : behindInMarks op e = false) (hw : SE X k env sc (eval l env) m σ (thenE fun a σ => SE X k env sc (eval e env) m σ (thenE fun b σ => cmpW X op a b σ fun r => K (.val (.d (.bool r)) σ)))) :
    SE X k env sc (eval (.Compare l [op] [e] p) env) m σ K := by
  intro A s ρ Q E ar R F hok er
  show wpAny _ A (eval l env >>= fun a => compareChain p a [op] (markedEach [op] [e] (evalEach [e] env))) Q E s
  refine wpAny_bind (SE.andThen hw ar R F er fun a σ₁ ρ₁ va h₁ tk hf R₁ g₁ ha ar₁ F₁ => ?_)
  exact cmp1 (s := { s with heap := h₁, toks := tk }) (f := fun r σ => K (.val (.d (.bool r)) σ)) h1 hf ar₁ R₁ F₁ ha (er.after g₁) fun r σ₂ ρ₂ h₂ tk₂ hK R₂ g₂ _ _ => hok _ _ _ _ _ _ hK R₂ (g₁.trans g₂) (.ofBool r)
noncomputable def SL (X : Cx) (k : Nat) (env : Env) (sc : Kinds) (es : List Expr) (m : Loc) (σ : Store) (K : OutE → Prop) (f : List V → Store → Prop) : Prop :=
  ∀ (pos : Pos) (A : Around) (s : Shared) (ρ : Nat → Addr) (Q : List Value → Shared → Prop) (E : Value → Shared → Prop), Ar X k A env s.heap → Rep X ρ σ s.heap → Frm X env sc m σ.length ρ s.heap → ErE X env.frame σ ρ s K E →
    (∀ vs σ' ρ' as h' tk, f vs σ' → Rep X ρ' σ' h' → Go Nowhere σ ρ s.heap σ' ρ' h' → HasAll X σ'.length ρ' h' vs as → Ar X k A env h' → Frm X env sc m σ'.length ρ' h' → Q as { s with heap := h', toks := tk }) →
    wpAny (model X.prog X.w) A (spliced (backTo pos (starEach es env))) Q E s
theorem zqac {f : List V → Store → Prop} (h : f [] σ) : SL X k env sc [] m σ K f := fun pos A s ρ Q E ar R F er hq => wpAny_items_nil (hq [] σ ρ [] s.heap s.toks h R (.refl ..) .nil ar F)
theorem zqbb {e : Expr} {r : List Expr} {f : List V → Store → Prop} (hs : noStar e = true) (hw : SE X k env sc (eval e env) m σ (thenE fun v σ => SL X k env sc r m σ K fun vs σ => f (v :: vs) σ)) : SL X k env sc (e :: r) m σ K f := by
  intro pos A s ρ Q E ar R F er h
  refine wpAny_items_cons ?_ (starEach_plain hs)
  refine SE.andThen hw ar R F er fun v σ₁ ρ₁ a h₁ tk hf R₁ g₁ hv ar₁ F₁ => ?_
  refine hf pos A { s with heap := h₁, toks := tk } ρ₁ _ E ar₁ R₁ F₁ (er.after g₁) fun vs σ₂ ρ₂ as h₂ tk₂ hf₂ R₂ g₂ hvs ar₂ F₂ => ?_
  exact h (v :: vs) σ₂ ρ₂ (a :: as) h₂ tk₂ hf₂ R₂ (g₁.trans g₂) (.cons (hv.go R₁ g₂ .nowhere) hvs) ar₂ F₂
theorem zqae {es : List Expr} (hw : SL X k env sc es m σ K fun vs σ => vs.length ≤ 1000000 ∧ K (.val (.ref σ.length) (σ ++ [.lst vs]))) : SE X k env sc (eval (.List es p) env) m σ K := by
  intro A s ρ Q E ar R F hok er
  refine wpAny_List_spliced (hw _ A s ρ _ E ar R F er fun vs σ₁ ρ₁ as h₁ tk hf R₁ g₁ hvs ar₁ F₁ => ⟨?_, ?_⟩)
  · rw [sizeLine_eq, ← hvs.length]; have := hf.1; (first | lia | omega)
  · have := R₁.newList (n := 0) hvs
    exact hok _ _ _ (.ref h₁.objs.size) _ tk hf.2 this.1 (g₁.trans this.2) newRef
theorem newObjTuple {A : Around} {s : Shared} {ρ : Nat → Addr} {items : List Value} {Q : Value → Shared → Prop} (R : Rep X ρ σ s.heap) {ds : List PyData} (hv : HasAll X σ.length ρ s.heap (ds.map V.d) items)
    (h : ∀ h', Rep X ρ σ h' → Go Nowhere σ ρ s.heap σ ρ h' → Has X σ.length ρ h' (.d (.tuple ds)) (.ref s.heap.objs.size) → Q (.ref s.heap.objs.size) { s with heap := h' }) :
    Q (.ref s.heap.objs.size) { s with heap := s.heap.push { cls := .type "tuple", data := .seq items.toArray } } := by
  obtain ⟨R', g'⟩ := R.push (W := Nowhere) { cls := .type "tuple", data := .seq items.toArray }
  refine h _ R' g' (.d (.tuple (Heap.get?_push_size _ rfl) rfl rfl (fun q => ?_) ?_))
  · obtain ⟨o, _, _, e, _⟩ := R.bad _ q
    exact Nat.lt_irrefl _ (Heap.lt_size e)
  have : ∀ (ds : List PyData) (items : List Value), HasAll X σ.length ρ s.heap (ds.map V.d) items → RdsC X.bad s.heap items ds := by
    intro ds
    induction ds with
    | nil => intro items x; cases x; exact .nil
    | cons d ds ih =>
      intro items x
      cases x with
      | cons h1 h2 => exact .cons h1.d_rdc (ih _ h2)
  exact (this ds items hv).to (fun _ _ _ q => q) fun b o e _ _ _ => Heap.get?_push_of_some _ e
theorem zqcb {es : List Expr} {b : _} (hw : SL X k env sc es m σ K fun vs σ => ∃ ds, vs = ds.map V.d ∧ ds.length ≤ 1000000 ∧ K (.val (.d (.tuple ds)) σ)) : SE X k env sc (eval (.Tuple es b p) env) m σ K := by
  intro A s ρ Q E ar R F hok er
  refine wpAny_Tuple_spliced (hw _ A s ρ _ E ar R F er fun vs σ₁ ρ₁ as h₁ tk hf R₁ g₁ hvs ar₁ F₁ => ?_)
  obtain ⟨ds, rfl, hlen, hK⟩ := hf
  refine ⟨?_, newObjTuple (A := A) (s := { s with heap := h₁, toks := tk }) R₁ hvs fun h' R' g' hv' => hok _ _ _ _ _ _ hK R' (g₁.trans g') hv'⟩
  rw [sizeLine_eq, ← hvs.length, List.length_map]; (first | lia | omega)
theorem noSlice_ne {i : Expr} (h : noSlice i = true) : ∀ b c d q, i ≠ .Slice b c d q := fun b c d q e => by rw [e] at h; cases h
theorem zqbp {a i : Expr} (h1 : noSlice i = true) (hw : SE X k env sc (eval a env) m σ (thenE fun o σ => SE X k env sc (eval i env) m σ (thenE fun j σ => itemW X o j σ K))) : SE X k env sc (eval (.Subscript a i p) env) m σ K := by
  intro A s ρ Q E ar R F hok er
  refine Subscript_ (SE.andThen hw ar R F er fun o σ₁ ρ₁ vo h₁ tk hf R₁ g₁ ho ar₁ F₁ => ?_)
  refine SE.andThen (s := { s with heap := h₁, toks := tk }) hf ar₁ R₁ F₁ (er.after g₁) fun j σ₂ ρ₂ vj h₂ tk₂ hf₂ R₂ g₂ hj ar₂ F₂ => ?_
  exact item_sound (noSlice_ne h1) hf₂ R₂ (ho.go R₁ g₂ .nowhere) hj (hok.after (g₁.trans g₂))
noncomputable def SO (X : Cx) (k : Nat) (env : Env) (sc : Kinds) (e : Option Expr) (m : Loc) (σ : Store) (K : OutE → Prop) (f : Option Int → Store → Prop) : Prop :=
  ∀ (A : Around) (s : Shared) (ρ : Nat → Addr) (Q : Value → Shared → Prop) (E : Value → Shared → Prop), Ar X k A env s.heap → Rep X ρ σ s.heap → Frm X env sc m σ.length ρ s.heap → ErE X env.frame σ ρ s K E →
    (∀ i v σ' ρ' h' tk, f i σ' → IsPart v i → Rep X ρ' σ' h' → Go Nowhere σ ρ s.heap σ' ρ' h' → Ar X k A env h' → Frm X env sc m σ'.length ρ' h' → Q v { s with heap := h', toks := tk }) → wpAny (model X.prog X.w) A (evalPart e env) Q E s
theorem zqai {e : Expr} {f : Option Int → Store → Prop} (hw : SE X k env sc (eval e env) m σ (thenE fun v σ => ∃ i, v = .d (.int i) ∧ f (some i) σ)) : SO X k env sc (some e) m σ K f := by
  intro A s ρ Q E ar R F er h
  refine SE.andThen hw ar R F er fun v σ₁ ρ₁ a h₁ tk hf R₁ g₁ hv ar₁ F₁ => ?_
  obtain ⟨i, rfl, hf⟩ := hf
  obtain ⟨t, rfl⟩ := hv.int_inv
  exact h (some i) _ σ₁ ρ₁ h₁ tk hf (.int i t) R₁ g₁ ar₁ F₁
theorem zqax {a : Expr} {lo hi : Option Expr} (hw : SE X k env sc (eval a env) m σ (thenE fun o σ => SO X k env sc lo m σ K fun l σ => SO X k env sc hi m σ K fun u σ => sliceW X o l u σ K)) : SE X k env sc (eval (.Subscript a (.Slice lo hi none q) p) env) m σ K := by
  intro A s ρ Q E ar R F hok er
  refine Subscript_ (SE.andThen hw ar R F er fun o σ₁ ρ₁ vo h₁ tk hf R₁ g₁ ho ar₁ F₁ => ?_)
  refine wpAny_Slice (hf A { s with heap := h₁, toks := tk } ρ₁ _ E ar₁ R₁ F₁ (er.after g₁) fun l vl σ₂ ρ₂ h₂ tk₂ hf₂ pl R₂ g₂ ar₂ F₂ => ?_)
  refine hf₂ A { s with heap := h₂, toks := tk₂ } ρ₂ _ E ar₂ R₂ F₂ ((er.after g₁).after g₂) fun u vu σ₃ ρ₃ h₃ tk₃ hf₃ pu R₃ g₃ ar₃ F₃ => ?_
  exact wpAny_pure (slice_sound (s := { s with heap := h₃, toks := tk₃ }) hf₃ R₃ ((ho.go R₁ g₂ .nowhere).go R₂ g₃ .nowhere) pl pu (hok.after ((g₁.trans g₂).trans g₃)))
theorem zqaf {x : Str} {args : List Expr} {T : Contract} (cx : CxOk X) (h1 : isGlobB sc x = true) (hT : ValidF X k x T) (hst : args.all noStar = true) (hw : SL X k env sc args m σ K fun vs σ => T vs σ K) : SE X k env sc (eval (.Call (.Name x q) args [] p) env) m σ K := by
  intro A s ρ Q E ar R F hok er
  obtain ⟨fv, hval, hkp, hcall⟩ := hT
  refine wpAny_Call_NameR (glob_sound cx R F (isGlob h1) hval ?_)
  refine callWith_gen (args_noStar args hst) hkp (evalArgs_gen (args_noStar args hst) ?_)
  refine hw _ A s ρ _ E ar R F er fun vs σ₁ ρ₁ as h₁ tk hf R₁ g₁ hvs ar₁ F₁ => ⟨R₁.base, ?_⟩
  exact hcall vs σ₁ K hf A { s with heap := h₁, toks := tk } ρ₁ _ Q E ar₁.c R₁ (by simpa using hvs) (hok.after g₁) (er.after g₁).none
theorem noSuper_base {o : Expr} {name : Str} (h : noSuper o = true) : attributeBase o name env (eval o env) = eval o env := by
  unfold attributeBase
  split
  · exact absurd h (by simp [noSuper])
  · rfl
theorem zqch {o : Expr} {name : Str} {args : List Expr} {T : Contract} (h1 : noSuper o = true) (h2 : (q.endLine == p.line) = true) (h3 : args.all noStar = true) (h4 : args.length < 20) (hM : ValidM X k "list" name T)
    (hw : SE X k env sc (eval o env) m σ (thenE fun ov σ => ∃ l xs, ov = .ref l ∧ itemsAt σ l = some xs ∧ SL X k env sc args m σ K fun vs σ => T (.ref l :: vs) σ K)) : SE X k env sc (eval (.Call (.Attribute o name q) args [] p) env) m σ K := by
  intro A s ρ Q E ar R F hok er
  show wpAny _ A (attributeBase o name env (eval o env) >>= fun ov => standAt q.atName >>= fun _ => methodCall o name q p env ov (args.length + 0) (backTo p (starEach args env)) []) Q E s
  rw [noSuper_base h1]
  refine wpAny_bind (SE.andThen hw ar R F er fun ov σ₁ ρ₁ va h₁ tk hf R₁ g₁ ho ar₁ F₁ => wpAny_bind (wpAny_standAt ?_))
  obtain ⟨l, xs, rfl, hl, hf⟩ := hf
  obtain ⟨id, pa, slot, htyp, hcall⟩ := hM
  obtain ⟨_, rfl⟩ := ho.ref_inv
  obtain ⟨_, its, ⟨n, e⟩, _⟩ := R₁.list hl
  have hpos : methodCallPos true o env q p = pure p := by unfold methodCallPos; simp [h2]
  have hform : methodCallForm (args.length + 0) (backTo p (starEach args env)) [] = true := by
    unfold methodCallForm
    have : (backTo p (starEach args env)).all (fun x => !x.1) = true := by
      rw [List.all_eq_true]
      intro x hx
      have := List.any_eq_false.mp (args_noStar args h3) x hx
      simpa using this
    rw [this]
    simpa using (by (first | lia | omega) : args.length < 30)
  unfold methodCall
  rw [hform]
  refine wpAny_bind (wpAny_holding (getMethod_builtin (s := { s with heap := h₁, toks := tk }) ⟨_, e, rfl⟩ pa slot htyp (fun b w => by cases w; exact ⟨_, e, rfl⟩) ?_))
  refine wpAny_bind (wpAny_of_eq hpos ?_)
  refine callWith_gen (args_noStar args h3) Kp.builtin (evalArgs_gen (args_noStar args h3) ?_)
  refine hf _ A { s with heap := h₁, toks := tk } ρ₁ _ E ar₁ R₁ F₁ (er.after g₁) fun vs σ₂ ρ₂ as h₂ tk₂ hf₂ R₂ g₂ hvs ar₂ F₂ => ⟨R₂.base, ?_⟩
  exact hcall (.ref l :: vs) σ₂ K hf₂ A { s with heap := h₂, toks := tk₂ } ρ₂ _ Q E ar₂.c R₂ (.cons (ho.go R₁ g₂ .nowhere) hvs) (hok.after (g₁.trans g₂)) ((er.after g₁).after g₂).none
end
end Mine

set_option Elab.async false
set_option autoImplicit false
set_option linter.unusedVariables false
namespace Mine
open PySem PySem.Spec PySem.Calls PyProof.Rows
section
variable {X : Cx} {k : Nat} {env : Env} {sc : Kinds} {m : Loc} {σ : Store} {K : OutE → Prop} {f : Bool → Store → Prop} {p q : Pos}
noncomputable abbrev SV (X : Cx) (k : Nat) (env : Env) (sc : Kinds) (e : Expr) (m : Loc) (σ : Store) (K : OutE → Prop) (f : Bool → Store → Prop) : Prop := ST X k env sc (isTrue e env (eval e env)) m σ K f
theorem zqy {e : Expr} (he : ∀ whole, isTrue e env whole = (do let v ← whole; standAt e.pos; holding [v] (truthy v))) (x : SE X k env sc (eval e env) m σ (thenE fun v σ => ∃ b, truthW v = some b ∧ f b σ)) : SV X k env sc e m σ K f := by
  intro A s ρ Q E ar R F h er
  refine wpAny_isTrue_value (SE.andThen x ar R F er fun v σ₁ ρ₁ a h₁ tk hf R₁ g₁ hv ar₁ F₁ => ?_) (he _)
  obtain ⟨b, ht, hf⟩ := hf
  exact truth_sound ht hv (h b σ₁ ρ₁ h₁ tk hf R₁ g₁ ar₁ F₁)
theorem zqbk {g : Expr} {args : List Expr} {kws : List Keyword} (h : SE X k env sc (eval (.Call g args kws p) env) m σ (thenE fun v σ => ∃ b, truthW v = some b ∧ f b σ)) : SV X k env sc (.Call g args kws p) m σ K f := zqy (fun _ => rfl) h
theorem zqcc {x : Str} (h : SE X k env sc (eval (.Name x p) env) m σ (thenE fun v σ => ∃ b, truthW v = some b ∧ f b σ)) : SV X k env sc (.Name x p) m σ K f := zqy (fun _ => rfl) h
theorem zqaq {x : Expr} (h : SV X k env sc x m σ K fun b σ => f (!b) σ) : SV X k env sc (.UnaryOp .Not x p) m σ K f := by
  intro A s ρ Q E ar R F hq er
  exact wpAny_isTrue_Not (h A s ρ _ E ar R F (fun b σ₁ ρ₁ h₁ tk hf R₁ g₁ ar₁ F₁ => hq (!b) σ₁ ρ₁ h₁ tk hf R₁ g₁ ar₁ F₁) er)
noncomputable def SVs (X : Cx) (k : Nat) (env : Env) (sc : Kinds) (op : BoolOp) (es : List Expr) (m : Loc) (σ : Store) (K : OutE → Prop) (f : Bool → Store → Prop) : Prop := ST X k env sc (allTrue op es env) m σ K f
theorem zqah {vs : List Expr} {op : BoolOp} (h : SVs X k env sc op vs m σ K f) : SV X k env sc (.BoolOp op vs p) m σ K f := by
  intro A s ρ Q E ar R F hq er
  exact wpAny_isTrue_BoolOp (h A s ρ Q E ar R F hq er)
theorem zqao (h : f true σ) : SVs X k env sc .And [] m σ K f := fun A s ρ Q E ar R F hq er => wpAny_pure (hq _ σ ρ s.heap s.toks h R (.refl ..) ar F)
theorem zqbq (h : f false σ) : SVs X k env sc .Or [] m σ K f := fun A s ρ Q E ar R F hq er => wpAny_pure (hq _ σ ρ s.heap s.toks h R (.refl ..) ar F)
theorem zqay {e : Expr} {r : List Expr} (hw : SV X k env sc e m σ K fun b σ => if b then SVs X k env sc .And r m σ K f else f false σ) : SVs X k env sc .And (e :: r) m σ K f := by
  intro A s ρ Q E ar R F h er
  refine wpAny_allTrue_And_cons (hw A s ρ _ E ar R F (fun b σ₁ ρ₁ h₁ tk hf R₁ g₁ ar₁ F₁ => ?_) er)
  cases b with
  | false => exact h false σ₁ ρ₁ h₁ tk hf R₁ g₁ ar₁ F₁
  | true => exact (show SVs X k env sc .And r m σ₁ K f from hf) A { s with heap := h₁, toks := tk } ρ₁ Q E ar₁ R₁ F₁ (fun r σ₂ ρ₂ h₂ tk₂ hf₂ R₂ g₂ ar₂ F₂ => h r σ₂ ρ₂ h₂ tk₂ hf₂ R₂ (g₁.trans g₂) ar₂ F₂) (er.after g₁)
theorem zqau {e : Expr} {r : List Expr} (hw : SV X k env sc e m σ K fun b σ => if b then f true σ else SVs X k env sc .Or r m σ K f) : SVs X k env sc .Or (e :: r) m σ K f := by
  intro A s ρ Q E ar R F h er
  refine wpAny_allTrue_Or_cons (hw A s ρ _ E ar R F (fun b σ₁ ρ₁ h₁ tk hf R₁ g₁ ar₁ F₁ => ?_) er)
  cases b with
  | true => exact h true σ₁ ρ₁ h₁ tk hf R₁ g₁ ar₁ F₁
  | false => exact (show SVs X k env sc .Or r m σ₁ K f from hf) A { s with heap := h₁, toks := tk } ρ₁ Q E ar₁ R₁ F₁ (fun r σ₂ ρ₂ h₂ tk₂ hf₂ R₂ g₂ ar₂ F₂ => h r σ₂ ρ₂ h₂ tk₂ hf₂ R₂ (g₁.trans g₂) ar₂ F₂) (er.after g₁)
theorem zqu {op : CmpOp} {e : Expr} {a : V} {va : Value} {pos : Pos} {A : Around} {s : Shared} {ρ : Nat → Addr} {Q : Bool → Shared → Prop} {E : Value → Shared → Prop} (h1 : behindInMarks op e = false) (hw : SE X k env sc (eval e env) m σ (thenE fun b σ => cmpW X op a b σ fun r => f r σ))
    (ar : Ar X k A env s.heap) (R : Rep X ρ σ s.heap) (F : Frm X env sc m σ.length ρ s.heap) (hv : Has X σ.length ρ s.heap a va) (er : ErE X env.frame σ ρ s K E)
    (h : ∀ r σ' ρ' h' tk, f r σ' → Rep X ρ' σ' h' → Go Nowhere σ ρ s.heap σ' ρ' h' → Ar X k A env h' → Frm X env sc m σ'.length ρ' h' → Q r { s with heap := h', toks := tk }) :
    wpAny (model X.prog X.w) A (holding [va] (markedBehindIn op e (eval e env)) >>= fun rv => standAt pos >>= fun _ => operate [va, rv] (compareOp op va rv) >>= fun c => holding [c] (truthy c)) Q E s := by
  rw [markedBehindIn_of_false h1]
  refine wpAny_bind (wpAny_holding (SE.andThen hw ar R F er fun b σ₁ ρ₁ vb h₁ tk hf R₁ g₁ hb ar₁ F₁ => ?_))
  exact wpAny_bind (wpAny_standAt (wpAny_bind (wpAny_operating (cmp_sound hf ar₁ R₁ (hv.go R g₁ .nowhere) hb fun r hr => wpAny_holding (wpAny_truthy_bool (h r σ₁ ρ₁ h₁ tk hr R₁ g₁ ar₁ F₁))))))
theorem zqad {l e : Expr} {op : CmpOp} (h1 : behindInMarks op e = false) (hw : SE X k env sc (eval l env) m σ (thenE fun a σ => SE X k env sc (eval e env) m σ (thenE fun b σ => cmpW X op a b σ fun r => f r σ))) :
    SV X k env sc (.Compare l [op] [e] p) m σ K f := by
  intro A s ρ Q E ar R F h er
  show wpAny _ A (eval l env >>= fun a => testChain p a [op] (markedEach [op] [e] (evalEach [e] env))) Q E s
  refine wpAny_bind (SE.andThen hw ar R F er fun a σ₁ ρ₁ va h₁ tk hf R₁ g₁ ha ar₁ F₁ => ?_)
  exact zqu (s := { s with heap := h₁, toks := tk }) h1 hf ar₁ R₁ F₁ ha (er.after g₁) fun r σ₂ ρ₂ h₂ tk₂ hK R₂ g₂ ar₂ F₂ => h r σ₂ ρ₂ h₂ tk₂ hK R₂ (g₁.trans g₂) ar₂ F₂
theorem zqbu {l e e' : Expr} {op op' : CmpOp} (h1 : behindInMarks op' e' = false) (hw : SE X k env sc (eval l env) m σ (thenE fun a σ => SE X k env sc (eval e env) m σ (thenE fun b σ => cmpW X op a b σ fun r => if r then SE X k env sc (eval e' env) m σ (thenE fun c σ => cmpW X op' b c σ fun r => f r σ) else f false σ))) :
    SV X k env sc (.Compare l [op, op'] [e, e'] p) m σ K f := by
  intro A s ρ Q E ar R F h er
  show wpAny _ A (eval l env >>= fun a => testChain p a [op, op'] (markedEach [op, op'] [e, e'] (evalEach [e, e'] env))) Q E s
  refine wpAny_bind (SE.andThen hw ar R F er fun a σ₁ ρ₁ va h₁ tk hf R₁ g₁ ha ar₁ F₁ => ?_)
  refine cmp2 (s := { s with heap := h₁, toks := tk }) (g := fun b r σ => if r then SE X k env sc (eval e' env) m σ (thenE fun c σ => cmpW X op' b c σ fun r => f r σ) else f false σ) (next := fun rv => testChain p rv [op'] (markedEach [op'] [e'] (evalEach [e'] env))) (no := fun _ => pure false) hf ar₁ R₁ F₁ ha (er.after g₁) fun b vb r σ₂ ρ₂ h₂ tk₂ hg R₂ g₂ hb ar₂ F₂ => ?_
  cases r with
  | false => exact wpAny_pure (h false σ₂ ρ₂ h₂ tk₂ hg R₂ (g₁.trans g₂) ar₂ F₂)
  | true => exact zqu (s := { s with heap := h₂, toks := tk₂ }) h1 hg ar₂ R₂ F₂ hb ((er.after g₁).after g₂) fun r σ₃ ρ₃ h₃ tk₃ hK R₃ g₃ ar₃ F₃ => h r σ₃ ρ₃ h₃ tk₃ hK R₃ ((g₁.trans g₂).trans g₃) ar₃ F₃
theorem zqbj (h : f true σ) : SIfs X k env sc [] m σ f := h
theorem zqbv {e : Expr} (h : SV X k env sc e m σ (fun _ => False) f) : SIfs X k env sc [e] m σ f := h
theorem zqp {elt iter : Expr} {x : Str} {ifs : List Expr} {scope : Scope} (hc : 100 ≤ k) (h1 : noSet iter = true) (h2 : compOkB sc scope x = true)
    (hw : SE X k env sc (eval iter env) m σ (thenE fun src σ => ∃ (N : Nat) (I : Nat → List V → Store → Prop), N ≤ 1000000 ∧ I 0 [] σ ∧
          (∀ j acc σ, j < N → I j acc σ → ∃ v, srcNext σ src j = some (some v) ∧ acc.length ≤ j ∧ ∀ env',
            SIfs X k env' (kindsOf scope.names) ifs (upd (compLoc scope.names m) x v) σ fun b σ => if b then SE X k env' (kindsOf scope.names) (eval elt env') (upd (compLoc scope.names m) x v) σ (noExn fun w σ => I (j + 1) (acc ++ [w]) σ) else I (j + 1) acc σ) ∧
          (∀ acc σ, I N acc σ → srcNext σ src N = some none ∧ K (.val (.ref σ.length) (σ ++ [.lst acc]))))) : SE X k env sc (eval (.ListComp elt [⟨.Name x q, iter, ifs, 0⟩] scope p) env) m σ K := by
  intro A s ρ Q E ar R F hok er
  rw [eval_ListComp]
  refine comp_core (use := none) hc (compOk_of h2) h1 hw ar R F er fun acc σ' ρ' C h' tk mC hK R' g' hns hC hsep hB => ⟨mC, hns, fun h'' hsb => ?_⟩
  have ex := Ext1.ofSame hsb
  have hn : ∀ o, h'.get? C = some o → ¬ Still o := fun o e => by
    obtain ⟨o', es, ep, e', d, _⟩ := hns
    rw [e] at e'; cases e'; exact Still.notNs d
  exact hok _ _ ρ' _ h'' tk hK (R'.but ex hn hsep hB) (g'.ext1 ex hC) (.ref (by simp))
end
end Mine

set_option Elab.async false
set_option autoImplicit false
set_option linter.unusedVariables false
namespace Mine
open PySem PySem.Spec PySem.Calls PyProof.Rows
structure Turn (P : Addr → Prop) (h h' : Heap) : Prop where
  size : h.objs.size ≤ h'.objs.size
  keep : ∀ b o, ¬ P b → h.get? b = some o → h'.get? b = some o
structure PObj (X : Cx) (b : Addr) (o : Obj) : Prop where
  nodict : NoDict o
  nocell : ∀ v, o.data ≠ .cell v
  nolist : o.cls ≠ .type "list"
  hid : (∃ T ∈ iterTypes, o.cls = .type T) ∨ (o.cls = .type "tuple" ∧ X.bad b)
section
variable {X : Cx} {P : Addr → Prop} {b' : Addr → Prop} {n : Nat} {ρ : Nat → Addr} {h h' : Heap} {σ : Store}
theorem Turn.still (t : Turn P h h') (hP : ∀ b o, P b → h.get? b = some o → PObj X b o) {b : Addr} {o : Obj} (e : h.get? b = some o) (hs : Still o) (hb : o.cls = .type "tuple" → ¬ X.bad b) : h'.get? b = some o :=
  t.keep b o (fun q => by
    rcases (hP b o q e).hid with ⟨T, hT, hc⟩ | ⟨hc, hbad⟩
    · exact hs.noiter T hT hc
    · exact hb hc hbad) e
theorem Has.turn {v : V} {a : Value} (x : Has X n ρ h v a) (hb : ∀ b o, h.get? b = some o → b' b → X.bad b) (t : Turn P h h') (hP : ∀ b o, P b → h.get? b = some o → PObj X b o) : Has (X.hide b') n ρ h' v a := by
  cases x with
  | d r => exact .d (r.to hb fun b o e hc hs hn => let ⟨_, _, hd⟩ := hs; t.still hP e (.tuple hc hd) fun _ => hn)
  | ref hi => exact .ref hi
  | exc h1 h2 h3 h4 h5 => exact .exc h1 (t.still hP h2 (.fields (by rw [h3]; exact fun e => nomatch e) (by rw [h3]; exact fun e => nomatch e) (by rw [h3]; exact fun _ _ e => nomatch e) h4) (by rw [h3]; exact fun e => nomatch e)) h3 h4 h5
  | glob h1 => exact .glob h1
  | rng h1 h2 => exact .rng (t.still hP h1 (.fields (show Value.type "range" ≠ .type "list" by decide) (show Value.type "range" ≠ .none by decide) (show ∀ T ∈ iterTypes, Value.type "range" ≠ .type T by decide) rfl) (fun e => absurd e (show Value.type "range" ≠ .type "tuple" by decide))) h2
theorem HasAll.turn {vs : List V} {as : List Value} (x : HasAll X n ρ h vs as) (hb : ∀ b o, h.get? b = some o → b' b → X.bad b) (t : Turn P h h') (hP : ∀ b o, P b → h.get? b = some o → PObj X b o) : HasAll (X.hide b') n ρ h' vs as := by
  induction x with
  | nil => exact .nil
  | cons h1 _ ih => exact .cons (h1.turn hb t hP) ih
theorem Cell.Shape.turn {c : Cell} {a : Addr} {o : Obj} {items : List Value} (s : c.Shape h a o items) (t : Turn P h h') (hP : ∀ b o, P b → h.get? b = some o → PObj X b o) : c.Shape h' a o items := by
  cases c with
  | tab P q =>
    obtain ⟨e, ps, h1, h2, h3⟩ := s
    refine ⟨e, ps, h1, h2, fun pos cv hc => ?_⟩
    obtain ⟨a, o, vs, t', e, g, hcl, hd, r⟩ := h3 pos cv hc
    exact ⟨a, o, vs, t', e, t.still hP g (.fields (by rw [hcl]; decide) (by rw [hcl]; decide) (by rw [hcl]; decide) hd) (fun q => by rw [hcl] at q; exact absurd q (by decide)), hcl, hd, r⟩
  | lst xs => exact s
  | rol xs => exact s
  | dct => exact s
theorem Rep.turn (R : Rep X ρ σ h) (hb : ∀ b o, h.get? b = some o → b' b → X.bad b) (t : Turn P h h') (hP : ∀ b o, P b → h.get? b = some o → PObj X b o) (hB : ∀ b, P b → X.B.get? b = none)
    (hbad : ∀ b, b' b → ∃ o vs n, h'.get? b = some o ∧ o.cls = .type "tuple" ∧ o.data = .seq vs n) : Rep (X.hide b') ρ σ h' where
  base := fun b o e => t.keep b o (fun q => by have e' : X.B.get? b = some o := e; rw [hB b q] at e'; cases e') (R.base b o e)
  cell := fun i c e => by
    obtain ⟨oc, items, hp, sh, ha⟩ := R.cell i c e
    refine ⟨oc, items, t.keep _ _ (fun q => ?_) hp, sh.turn t hP, ha.turn hb t hP⟩
    have po := hP _ _ q hp
    rcases sh.is with ⟨q1, _⟩ | ⟨_, es, n, q1⟩ | ⟨q1, _⟩
    · exact po.nolist q1
    · exact po.nodict es n q1
    · rcases po.hid with ⟨T, _, hc⟩ | ⟨hc, _⟩ <;> (rw [q1] at hc; exact nomatch hc)
  own := R.own
  inj := R.inj
  bad := hbad
theorem Frm.turn {env : Env} {sc : Kinds} {m : Loc} (F : Frm X env sc m n ρ h) (hb : ∀ b o, h.get? b = some o → b' b → X.bad b) (t : Turn P h h') (hP : ∀ b o, P b → h.get? b = some o → PObj X b o) : Frm (X.hide b') env sc m n ρ h' := by
  have hc : ∀ c ov, h.IsCell c ov → h'.IsCell c ov := fun c ov ⟨o, e, d⟩ => ⟨o, t.keep _ _ (fun q => (hP _ _ q e).nocell _ d) e, d⟩
  refine { kind := F.kind, glob := F.glob, bi := F.bi, kinds := F.kinds, ns := ?_, cells := ?_, isCells := ?_, sepL := F.sepL, newL := F.newL, newC := F.newC, apart := F.apart }
  · obtain ⟨mm, ⟨o, es, ep, e, d, r⟩, hm⟩ := F.ns
    exact ⟨mm, ⟨o, es, ep, t.keep _ _ (fun q => (hP _ _ q e).nodict es ep d) e, d, r⟩, fun x v h1 h2 => let ⟨a, h3, h4⟩ := hm x v h1 h2; ⟨a, h3, h4.turn hb t hP⟩⟩
  · intro x hx
    obtain ⟨c, ov, h1, h2, h3⟩ := F.cells x hx
    exact ⟨c, ov, h1, hc c ov h2, fun v hv => let ⟨a, h4, h5⟩ := h3 v hv; ⟨a, h4, h5.turn hb t hP⟩⟩
  · intro x c hx
    obtain ⟨ov, h1⟩ := F.isCells x c hx
    exact ⟨ov, hc c ov h1⟩
theorem Ar.turn {k : Nat} {A : Around} {env : Env} (a : Ar X k A env h) (t : Turn P h h') (hP : ∀ b o, P b → h.get? b = some o → PObj X b o) : Ar (X.hide b') k A env h' := by
  refine ⟨a.handled, a.depth, a.units, ?_⟩
  obtain ⟨f, ou, h1, h2, h3⟩ := a.stack
  refine ⟨f, ou, h1, h2, fun env he => ?_⟩
  obtain ⟨q1, L, o', es, n, q2, q3, q4, q5⟩ := h3 env he
  exact ⟨q1, L, o', es, n, q2, q3, t.keep _ _ (fun q => (hP _ _ q q4).nodict es n q5) q4, q5⟩
theorem Go.turn {W : Addr → Prop} {σ' : Store} {ρ' : Nat → Addr} {h₀ : Heap} (g : Go W σ ρ h₀ σ' ρ' h) (t : Turn P h h') (hnew : ∀ b, P b → h₀.objs.size ≤ b) : Go W σ ρ h₀ σ' ρ' h' where
  size := Nat.le_trans g.size t.size
  keep := fun b o e hw hb => let ⟨sl, e1, f1⟩ := g.keep b o e hw hb; ⟨sl, t.keep _ _ (fun q => absurd (Heap.lt_size e) (Nat.not_lt.mpr (hnew b q))) e1, f1⟩
  dicts := fun b o es n e d => let ⟨o', es', n', e', d'⟩ := g.dicts b o es n e d; ⟨o', es', n', t.keep _ _ (fun q => absurd (Heap.lt_size e) (Nat.not_lt.mpr (hnew b q))) e', d'⟩
  len := g.len
  ext := g.ext
  new := g.new
theorem Go.obj {W : Addr → Prop} {σ' : Store} {ρ' : Nat → Addr} (g : Go W σ ρ h σ' ρ' h') (R : Rep X ρ σ h) (w : WOk W h) {b : Addr} {o : Obj} (e : h.get? b = some o) (hd : NoDict o) (hc : ∀ v, o.data ≠ .cell v) (hl : o.cls ≠ .type "list" ∧ o.cls ≠ .none) : h'.get? b = some o := by
  have hnw : ¬ W b := fun q => by
    rcases w b o q e with ⟨es, n, q⟩ | ⟨v, q⟩
    · exact hd es n q
    · exact hc v q
  obtain ⟨sl, e1, f1⟩ := g.keep b o e hnw (R.notCell e hl.1 hl.2 hd)
  rw [f1 hd] at e1
  exact e1
end
theorem zipApart_of {S l1 l2 : Nat} (h1 : l1 < S) (h2 : l2 < S) : ZipApart (S + 4) (S + 2) (S + 3) S (S + 1) l1 l2 where
  TIz := Nat.ne_of_lt (by (first | lia | omega))
  TOz := Nat.ne_of_lt (by (first | lia | omega))
  i1z := Nat.ne_of_lt (by (first | lia | omega))
  i2z := Nat.ne_of_lt (by (first | lia | omega))
  TITO := Nat.ne_of_lt (by (first | lia | omega))
  TIi1 := Nat.ne_of_gt (by (first | lia | omega))
  TIi2 := Nat.ne_of_gt (by (first | lia | omega))
  TOi1 := Nat.ne_of_gt (by (first | lia | omega))
  TOi2 := Nat.ne_of_gt (by (first | lia | omega))
  i12 := Nat.ne_of_lt (by (first | lia | omega))
  l1z := Nat.ne_of_lt (by (first | lia | omega))
  l1TO := Nat.ne_of_lt (by (first | lia | omega))
  l1i1 := Nat.ne_of_lt (by (first | lia | omega))
  l1i2 := Nat.ne_of_lt (by (first | lia | omega))
  l2z := Nat.ne_of_lt (by (first | lia | omega))
  l2TO := Nat.ne_of_lt (by (first | lia | omega))
  l2i1 := Nat.ne_of_lt (by (first | lia | omega))
  l2i2 := Nat.ne_of_lt (by (first | lia | omega))
noncomputable def ZipP (z TO i1 i2 : Addr) : Addr → Prop := fun b => b = z ∨ b = TO ∨ b = i1 ∨ b = i2
theorem zipP_new {S : Nat} {b : Nat} (h : ZipP (S + 4) (S + 3) S (S + 1) b) : S ≤ b := by
  rcases h with q | q | q | q
  · have q : b = S + 4 := q; (first | lia | omega)
  · have q : b = S + 3 := q; (first | lia | omega)
  · have q : b = S := q; (first | lia | omega)
  · have q : b = S + 1 := q; (first | lia | omega)
theorem zipP_ti {S : Nat} : ¬ ZipP (S + 4) (S + 3) S (S + 1) (S + 2) := by
  rintro (q | q | q | q)
  · have q : S + 2 = S + 4 := q; (first | lia | omega)
  · have q : S + 2 = S + 3 := q; (first | lia | omega)
  · have q : S + 2 = S := q; (first | lia | omega)
  · have q : S + 2 = S + 1 := q; (first | lia | omega)
end Mine

set_option Elab.async false
set_option autoImplicit false
set_option linter.unusedVariables false
namespace Mine
open PySem PySem.Spec PySem.Calls PyProof.Rows
section
variable {X : Cx} {k : Nat} {env : Env} {sc : Kinds} {m : Loc} {σ : Store} {K : OutS → Prop} {A : Around} {s : Shared} {ρ : Nat → Addr} {E : Value → Shared → Prop} {Q : Flow → Shared → Prop} {p q : Pos}
noncomputable def OkN (X : Cx) (env : Env) (sc : Kinds) (σ : Store) (ρ : Nat → Addr) (s : Shared) (K : OutS → Prop) (Q : Flow → Shared → Prop) : Prop :=
  ∀ m' σ' ρ' h' tk, K (.next m' σ') → Rep X ρ' σ' h' → Go (Wr env) σ ρ s.heap σ' ρ' h' → Frm X env sc m' σ'.length ρ' h' → Q .next { s with heap := h', toks := tk }
noncomputable def OkR (X : Cx) (env : Env) (sc : Kinds) (σ : Store) (ρ : Nat → Addr) (s : Shared) (K : OutS → Prop) (Q : Flow → Shared → Prop) : Prop :=
  ∀ v σ' ρ' a h' tk, K (.ret v σ') → Rep X ρ' σ' h' → Go (Wr env) σ ρ s.heap σ' ρ' h' → (∃ m', Frm X env sc m' σ'.length ρ' h') → Has X σ'.length ρ' h' v a → Q (.ret a) { s with heap := h', toks := tk }
noncomputable def ErS (X : Cx) (env : Env) (sc : Kinds) (σ : Store) (ρ : Nat → Addr) (s : Shared) (K : OutS → Prop) (E : Value → Shared → Prop) : Prop :=
  ∀ c m' σ' ρ' e h' tk, K (.exn c m' σ') → Rep X ρ' σ' h' → Go (Wr env) σ ρ s.heap σ' ρ' h' → Frm X env sc m' σ'.length ρ' h' → Flies X c env.frame s.heap.objs.size e h' → E (.ref e) { s with heap := h', toks := tk }
theorem OkN.after {σ₁ : Store} {ρ₁ : Nat → Addr} {h₁ : Heap} {tk : Nat} (x : OkN X env sc σ ρ s K Q) (g : Go (Wr env) σ ρ s.heap σ₁ ρ₁ h₁) : OkN X env sc σ₁ ρ₁ { s with heap := h₁, toks := tk } K Q :=
  fun m' σ' ρ' h' tk' hK R' g' F' => x m' σ' ρ' h' tk' hK R' (g.trans g') F'
theorem OkR.after {σ₁ : Store} {ρ₁ : Nat → Addr} {h₁ : Heap} {tk : Nat} (x : OkR X env sc σ ρ s K Q) (g : Go (Wr env) σ ρ s.heap σ₁ ρ₁ h₁) : OkR X env sc σ₁ ρ₁ { s with heap := h₁, toks := tk } K Q :=
  fun v σ' ρ' a h' tk' hK R' g' hF hv => x v σ' ρ' a h' tk' hK R' (g.trans g') hF hv
theorem ErS.after {σ₁ : Store} {ρ₁ : Nat → Addr} {h₁ : Heap} {tk : Nat} (x : ErS X env sc σ ρ s K E) (g : Go (Wr env) σ ρ s.heap σ₁ ρ₁ h₁) : ErS X env sc σ₁ ρ₁ { s with heap := h₁, toks := tk } K E :=
  fun c m' σ' ρ' e h' tk' hK R' g' F' fl => x c m' σ' ρ' e h' tk' hK R' (g.trans g') F' (fl.sz g.size)
theorem Go.up {σ₁ : Store} {ρ₁ : Nat → Addr} {h₁ h : Heap} {W : Addr → Prop} (g : Go Nowhere σ ρ h σ₁ ρ₁ h₁) : Go W σ ρ h σ₁ ρ₁ h₁ := g.weaken fun _ _ _ q => q.elim
theorem swaps_no {v : Expr} {t : Option Expr} {l : Nat} (h : (∀ a b c d, v ≠ .ListComp a b c d) ∧ (∀ a b c d, v ≠ .SetComp a b c d) ∧ (∀ a b c d e, v ≠ .DictComp a b c d e)) : swapsWith v t l env = pure false := by
  unfold swapsWith
  cases v <;> first | rfl | exact absurd rfl (h.1 _ _ _ _) | exact absurd rfl (h.2.1 _ _ _ _) | exact absurd rfl (h.2.2 _ _ _ _ _)
theorem swaps_noComp {v : Expr} {t : Option Expr} {l : Nat} (h : noComp v = true) : swapsWith v t l env = pure false :=
  swaps_no ⟨fun _ _ _ _ q => by subst q; simp [noComp] at h, fun _ _ _ _ q => by subst q; simp [noComp] at h, fun _ _ _ _ _ q => by subst q; simp [noComp] at h⟩
theorem swaps_comp {elt : Expr} {gens : List Comprehension} {scope : Scope} {p p' : Pos} {x : Str} {l : Nat} : ∃ b, swapsWith (.ListComp elt gens scope p) (some (.Name x p')) l env = pure b ∧ (b = true → env.kindOf x = some .local) := by
  refine ⟨env.blockKind == .function && env.kindOf x == some .local && p'.line == (Expr.ListComp elt gens scope p).pos.line && !(scope.names.any fun (n, k) => n == x && (k == .local || k == .cell)), rfl, fun h => ?_⟩
  simp only [Bool.and_eq_true, beq_iff_eq] at h
  exact h.1.1.2
theorem zql (h : K (.next m σ)) : SS X k env sc (execs [] env) m σ K := fun A s ρ Q E ar R F hn hr er => wpAny_execs_nil (hn m σ ρ s.heap s.toks h R (.refl ..) F)
theorem zqc {st : Stmt} {r : List Stmt} (hw : SS X k env sc (exec st env) m σ (loopS K fun m σ => SS X k env sc (execs r env) m σ K)) : SS X k env sc (execs (st :: r) env) m σ K := by
  intro A s ρ Q E ar R F hn hr er
  refine wpAny_execs_cons (hw A s ρ _ E ar R F (fun m₁ σ₁ ρ₁ h₁ tk hf R₁ g₁ F₁ => ?_) (fun v σ₁ ρ₁ a h₁ tk hf R₁ g₁ hF hv => hr v σ₁ ρ₁ a h₁ tk hf R₁ g₁ hF hv) er)
  exact (show SS X k env sc (execs r env) m₁ σ₁ K from hf) A { s with heap := h₁, toks := tk } ρ₁ Q E (ar.go g₁) R₁ F₁ (OkN.after (σ := σ) (ρ := ρ) (s := s) hn g₁) (OkR.after (σ := σ) (ρ := ρ) (s := s) hr g₁) (ErS.after (σ := σ) (ρ := ρ) (s := s) er g₁)
theorem zqbo {e : Expr} (h : SE X k env sc (eval e env) m σ (thenE fun v σ => K (.ret v σ))) : SS X k env sc (exec (.Return (some e) p) env) m σ K := fun A s ρ Q E ar R F hn hr er =>
  wpAny_Return_some (h A s ρ _ E ar R F (fun v σ₁ ρ₁ a h₁ tk hf R₁ g₁ hv => hr v σ₁ ρ₁ a h₁ tk hf R₁ g₁.up ⟨m, F.go R g₁⟩ hv) (by first | exact ErE.no | exact fun _ _ _ _ _ _ q => False.elim q))
theorem zqz {x : Str} {v : Expr} (hb : bindable sc x) (hsw : swapsWith v (some (.Name x q)) p.line env = pure false) (hw : SE X k env sc (eval v env) m σ (thenE fun v σ => K (.next (upd m x v) σ))) : SS X k env sc (exec (.Assign [.Name x q] v p) env) m σ K := by
  intro A s ρ Q E ar R F hn hr er
  refine wpAny_Assign_Name (SE.andThen hw ar R F (by first | exact ErE.no | exact fun _ _ _ _ _ _ q => False.elim q) fun w σ₁ ρ₁ a h₁ tk hf R₁ g₁ hv ar₁ F₁ => ?_) hsw
  exact store_sound (s := { s with heap := h₁, toks := tk }) R₁ F₁ hb hv fun h₂ tk₂ R₂ g₂ F₂ => hn _ _ _ _ _ hf R₂ (g₁.up.trans g₂) F₂
theorem zqr {x : Str} {v : Expr} (h1 : isBindB sc x = true) (h2 : noComp v = true) (hw : SE X k env sc (eval v env) m σ (thenE fun v σ => K (.next (upd m x v) σ))) : SS X k env sc (exec (.Assign [.Name x q] v p) env) m σ K := zqz (isBind h1) (swaps_noComp h2) hw
theorem zqcj {x y : Str} {elt iter : Expr} {ifs : List Expr} {scope : Scope} {py pq : Pos} (h1 : isBindB sc x = true) (hc0 : 100 ≤ k) (h2 : noSet iter = true) (h3 : compOkB sc scope y = true)
    (hw : SE X k env sc (eval iter env) m σ (thenE fun src σ => ∃ (N : Nat) (I : Nat → List V → Store → Prop), N ≤ 1000000 ∧ I 0 [] σ ∧
          (∀ j acc σ, j < N → I j acc σ → ∃ v, srcNext σ src j = some (some v) ∧ acc.length ≤ j ∧ ∀ env',
            SIfs X k env' (kindsOf scope.names) ifs (upd (compLoc scope.names m) y v) σ fun b σ => if b then SE X k env' (kindsOf scope.names) (eval elt env') (upd (compLoc scope.names m) y v) σ (noExn fun w σ => I (j + 1) (acc ++ [w]) σ) else I (j + 1) acc σ) ∧
          (∀ acc σ, I N acc σ → srcNext σ src N = some none ∧ (thenE fun v σ => K (.next (upd m x v) σ)) (.val (.ref σ.length) (σ ++ [.lst acc]))))) : SS X k env sc (exec (.Assign [.Name x q] (.ListComp elt [⟨.Name y py, iter, ifs, 0⟩] scope pq) p) env) m σ K := by
  obtain ⟨b, hsw, hloc⟩ := swaps_comp (env := env) (elt := elt) (gens := [⟨.Name y py, iter, ifs, 0⟩]) (scope := scope) (p := pq) (p' := q) (x := x) (l := p.line)
  cases b with
  | false => exact zqz (isBind h1) hsw (zqp hc0 h2 h3 hw)
  | true =>
    have hb := isBind h1
    intro A s ρ Q E ar R F hn hr er
    have er' : ErE X env.frame σ ρ s noK E := fun _ _ _ _ _ _ q => q.elim
    rw [exec_Assign_Name_used _ _ _ _ hsw]
    refine wpAny_bind (wpAny_standAt (wpAny_bind ?_))
    show wpAny _ A (do let _ ← comprehension (.ListComp elt [⟨.Name y py, iter, ifs, 0⟩] scope pq) scope env _ (newList []) false (eval iter env) (some (assign (.Name x q) env))) _ _ s
    refine wpAny_bind (wpAny_mono (comp_core (use := some (assign (.Name x q) env)) (Q := fun _ s' => Q .next s') hc0 (compOk_of h3) h2 hw ar R F (show ErE X env.frame σ ρ s (thenE fun v σ => K (.next (upd m x v) σ)) E from fun _ _ _ _ _ _ q => False.elim q) ?_) (fun _ s' hq => wpAny_pure (wpAny_pure hq)) fun _ _ e => e)
    intro acc σ' ρ' C h' tk mC hK R' g' hns hC hsep hB
    have F' := F.go R g'
    show wpAny _ A (assign (.Name x q) env (.ref (ρ' σ'.length))) _ _ _
    refine wpAny_assign_Name (store_sound (s := { s with heap := h', toks := tk }) R' F' hb (.ref (by simp)) fun h₂ tk₂ R₂ g₂ F₂ => ?_)
    have hCL : C ≠ env.locals := fun q => by
      obtain ⟨_, ⟨o, es, ep, e, _⟩, _⟩ := F.ns
      exact absurd (q ▸ Heap.lt_size e) (Nat.not_lt.mpr hC)
    have hCW : ¬ Wr env C := by
      rintro (q | ⟨z, hz⟩)
      · exact hCL q
      · obtain ⟨ov, o, e, _⟩ := F.isCells z C hz
        exact absurd (Heap.lt_size e) (Nat.not_lt.mpr hC)
    obtain ⟨oC, es, ep, eC, dC, rC⟩ := hns
    obtain ⟨sl, eC2, _⟩ := g₂.keep C oC eC hCW fun i hi q => hsep i hi q.symm
    refine ⟨mC, ⟨_, es, ep, eC2, dC, rC⟩, fun h₃ hsb => ?_⟩
    have ex := Ext1.ofSame hsb
    have hnS : ∀ o, h₂.get? C = some o → ¬ Still o := fun o e => by rw [eC2] at e; cases e; exact Still.notNs dC
    have st := ex.still' hnS
    refine hn _ _ ρ' h₃ tk₂ hK (R₂.but ex hnS hsep hB) ((g'.up.trans g₂).ext1 ex hC) ?_
    have hv' : ∀ {v a}, Has X (σ' ++ [Cell.lst acc]).length ρ' h₂ v a → Has X (σ' ++ [Cell.lst acc]).length ρ' h₃ v a := fun q => q.mono (Nat.le_refl _) (fun _ _ => rfl) st
    have hc : ∀ z c ov, env.cells.lookup z = some c → h₂.IsCell c ov → h₃.IsCell c ov := fun z c ov hz ⟨o', e', d⟩ => ⟨o', ex.keep _ _ (fun q => hCW (.inr ⟨z, q ▸ hz⟩)) e', d⟩
    refine { F₂ with ns := ?_, cells := ?_, isCells := ?_ }
    · obtain ⟨mm, ⟨o', es', ep', e', d', r'⟩, hm⟩ := F₂.ns
      exact ⟨mm, ⟨o', es', ep', ex.keep _ _ (Ne.symm hCL) e', d', r'⟩, fun y v h1 h2 => let ⟨a, h3, h4⟩ := hm y v h1 h2; ⟨a, h3, hv' h4⟩⟩
    · intro y hy
      obtain ⟨c, ov, h1, h2, h3⟩ := F₂.cells y hy
      exact ⟨c, ov, h1, hc y c ov h1 h2, fun v q => let ⟨a, h4, h5⟩ := h3 v q; ⟨a, h4, hv' h5⟩⟩
    · intro y c hy
      obtain ⟨ov, h1⟩ := F₂.isCells y c hy
      exact ⟨ov, hc y c ov hy h1⟩
theorem zqap {o i e : Expr} (hnc : noComp e = true) (hw : SE X k env sc (eval e env) m σ (thenE fun w σ => SE X k env sc (eval o env) m σ (thenE fun ov σ => SE X k env sc (eval i env) m σ (thenE fun iv σ => setW X ov iv w σ fun σ => K (.next m σ))))) :
    SS X k env sc (exec (.Assign [.Subscript o i q] e p) env) m σ K := by
  intro A s ρ Q E ar R F hn hr er
  have er' : ErE X env.frame σ ρ s noK E := fun _ _ _ _ _ _ q => q.elim
  refine wpAny_Assign_Subscript (SE.andThen hw ar R F er' fun w σ₁ ρ₁ a h₁ tk hf R₁ g₁ hv ar₁ F₁ => ?_) (swaps_noComp hnc)
  refine SE.andThen (s := { s with heap := h₁, toks := tk }) hf ar₁ R₁ F₁ (er'.after g₁) fun ov σ₂ ρ₂ vo h₂ tk₂ hf₂ R₂ g₂ ho ar₂ F₂ => ?_
  refine SE.andThen (s := { s with heap := h₂, toks := tk₂ }) hf₂ ar₂ R₂ F₂ ((er'.after g₁).after g₂) fun iv σ₃ ρ₃ vi h₃ tk₃ hf₃ R₃ g₃ hi ar₃ F₃ => ?_
  refine set_sound (s := { s with heap := h₃, toks := tk₃ }) hf₃ R₃ (ho.go R₂ g₃ .nowhere) hi ((hv.go R₁ g₂ .nowhere).go R₂ g₃ .nowhere) fun σ₄ h₄ hK R₄ g₄ => ?_
  exact hn m σ₄ ρ₃ h₄ tk₃ hK R₄ (((g₁.trans g₂).trans g₃).trans g₄).up (F₃.go R₃ g₄)
theorem zqbn {e : Expr} (h1 : noComp e = true) (hw : SE X k env sc (eval e env) m σ (thenE fun _ σ => K (.next m σ))) : SS X k env sc (exec (.Expr e p) env) m σ K := by
  intro A s ρ Q E ar R F hn hr er
  refine wpAny_Expr_any (SE.andThen hw ar R F (by first | exact ErE.no | exact fun _ _ _ _ _ _ q => False.elim q) fun w σ₁ ρ₁ a h₁ tk hf R₁ g₁ hv ar₁ F₁ => hn m σ₁ ρ₁ h₁ tk hf R₁ g₁.up F₁) ?_ (swaps_noComp h1)
  unfold interactive; rw [F.kind]; rfl
theorem zqby {t : Expr} {b e : List Stmt} (hw : SV X k env sc t m σ noK fun c σ => (c = true → SS X k env sc (execs b env) m σ K) ∧ (c = false → SS X k env sc (execs e env) m σ K)) : SS X k env sc (exec (.If t b e p) env) m σ K := by
  intro A s ρ Q E ar R F hn hr er
  refine wpAny_If (hw A s ρ _ E ar R F (fun c σ₁ ρ₁ h₁ tk hf R₁ g₁ ar₁ F₁ => ?_) (by first | exact ErE.no | exact fun _ _ _ _ _ _ q => False.elim q))
  cases c with
  | true => exact hf.1 rfl A { s with heap := h₁, toks := tk } ρ₁ Q E ar₁ R₁ F₁ (OkN.after (σ := σ) (ρ := ρ) (s := s) hn g₁.up) (OkR.after (σ := σ) (ρ := ρ) (s := s) hr g₁.up) (ErS.after (σ := σ) (ρ := ρ) (s := s) er g₁.up)
  | false => exact hf.2 rfl A { s with heap := h₁, toks := tk } ρ₁ Q E ar₁ R₁ F₁ (OkN.after (σ := σ) (ρ := ρ) (s := s) hn g₁.up) (OkR.after (σ := σ) (ρ := ρ) (s := s) hr g₁.up) (ErS.after (σ := σ) (ρ := ρ) (s := s) er g₁.up)
inductive ForInv (X : Cx) (k : Nat) (A : Around) (env : Env) (sc : Kinds) (src : V) (s : Shared) (N : Nat) (I : Nat → Loc → Store → Prop) (Ia : Addr) (σ₁ : Store) (ρ₁ : Nat → Addr) (h₁ : Heap) (c : Nat) : Shared → Prop
  | mk {kk : Nat} {m' : Loc} {σ' : Store} {ρ' : Nat → Addr} {h' : Heap} {tk : Nat} : kk ≤ N → c = N + 1 - kk → I kk m' σ' → Rep X ρ' σ' h' → Go (Wr env) σ₁ ρ₁ h₁ σ' ρ' h' → Frm X env sc m' σ'.length ρ' h' → IterAt X.bad ρ' h' Ia kk src → Ar X k A env h' → ForInv X k A env sc src s N I Ia σ₁ ρ₁ h₁ c { s with heap := h', toks := tk }
theorem zqat {x : Str} {it : Expr} {body : List Stmt} (h1 : isBindB sc x = true) (hroom : 100 ≤ k) (hset : noSet it = true)
    (hw : SE X k env sc (eval it env) m σ (thenE fun src σ => ∃ (N : Nat) (I : Nat → Loc → Store → Prop), I 0 m σ ∧
          (∀ j m σ, j < N → I j m σ → ∃ v, srcNext σ src j = some (some v) ∧ SS X k env sc (execs body env) (upd m x v) σ (loopN K (I (j + 1)))) ∧
          (∀ m σ, I N m σ → srcNext σ src N = some none ∧ K (.next m σ)))) :
    SS X k env sc (exec (.For (.Name x q) it body [] p) env) m σ K := by
  have hb := isBind h1
  intro A s ρ Q E ar R F hn hr er
  have er' : ErE X env.frame σ ρ s noK E := fun _ _ _ _ _ _ q => q.elim
  refine wpAny_For (SE.andThen hw ar R F er' fun src σ₁ ρ₁ a h₁ tk₁ hf R₁ g₁ hsrc ar₁ F₁ => ?_) (fun v => foldedSet_no hset v)
  obtain ⟨N, I, h0, hstep, hend⟩ := hf
  have hIs : IsSrc σ₁ src := by
    by_cases hN0 : 0 < N
    · obtain ⟨v, hv, _⟩ := hstep 0 m σ₁ hN0 h0
      exact isSrc_of hv
    · have : N = 0 := by (first | lia | omega)
      subst this
      exact isSrc_of (hend m σ₁ h0).1
  have hso := srcOk_of hsrc
  refine iter_sound (s := { s with heap := h₁, toks := tk₁ }) hIs R₁ hsrc fun h₂ it₂ hpush => ?_
  obtain ⟨o₂, rfl⟩ := hpush
  dsimp only at it₂ ⊢
  generalize hIa : h₁.objs.size = Ia at *
  obtain ⟨R₂, g₂⟩ := R₁.push (W := Nowhere) o₂
  have hbase : X.B.get? Ia = none := by
    cases e : X.B.get? Ia with
    | none => rfl
    | some o => exact absurd (Heap.lt_size (R₁.base _ _ e)) (by rw [hIa]; exact Nat.lt_irrefl _)
  refine codeAny_forLoop (ForInv X k A env sc src s N I Ia σ₁ ρ₁ h₁) ?_ (N + 1) (.mk (kk := 0) (tk := tk₁) (Nat.zero_le _) rfl h0 R₂ g₂.up (F₁.go R₁ g₂) it₂ (ar₁.go g₂))
  rintro c _ @⟨kk, m', σ', ρ', h', tk, hkk, rfl, hI, R', g', F', it', ar'⟩
  have hso' : SrcOk σ'.length src := by
    cases src <;> first | exact trivial | exact Nat.lt_of_lt_of_le hso g'.len
  obtain ⟨oI, eI, hoI⟩ := it'.obj
  by_cases hlt : kk < N
  · obtain ⟨v, hnx, hbody⟩ := hstep kk m' σ' hlt hI
    refine next_sound (s := { s with heap := h', toks := tk }) (ar'.handled hroom) R' it' hso' hnx ?_ ?_
    · rintro v' a h₄ tk₄ hv' hhas it₄ ex
      cases hv'
      have R₄ := R'.ext1 ex eI hoI hbase
      have F₄ := F'.ext1 ex eI hoI
      have ar₄ := ar'.ext1 ex eI hoI
      have g₄ := g'.ext1 ex (Nat.le_of_eq hIa)
      refine wpAny_assign_Name (store_sound (s := { s with heap := h₄, toks := tk₄ }) R₄ F₄ hb hhas fun h₅ tk₅ R₅ g₅ F₅ => ?_)
      have G₅ := g₄.trans g₅
      have it₅ := it₄.go hso' R₄ g₅ F₄.wok
      refine hbody A { s with heap := h₅, toks := tk₅ } ρ' _ _ (ar₄.go g₅) R₅ F₅ (fun m₆ σ₆ ρ₆ h₆ tk₆ hI₆ R₆ g₆ F₆ => ?_) (fun w σ₆ ρ₆ a₆ h₆ tk₆ hK R₆ g₆ hF₆ hw₆ => ?_) fun _ _ _ _ _ _ _ hK => hK.elim
      · exact ⟨N + 1 - (kk + 1), by (first | lia | omega), .mk (kk := kk + 1) hlt rfl hI₆ R₆ (G₅.trans g₆) F₆ (it₅.go hso' R₅ g₆ F₅.wok) ((ar₄.go g₅).go g₆)⟩
      · exact hr w σ₆ ρ₆ a₆ h₆ tk₆ hK R₆ (g₁.up.trans (G₅.trans g₆)) hF₆ hw₆
    · intro h₄ tk₄ hr; cases hr
  · have hkN : kk = N := by (first | lia | omega)
    subst hkN
    obtain ⟨hnx, hK⟩ := hend m' σ' hI
    refine next_sound (s := { s with heap := h', toks := tk }) (ar'.handled hroom) R' it' hso' hnx (fun _ _ _ _ hr => by cases hr) fun h₄ tk₄ _ ex => ?_
    refine wpAny_execs_nil ?_
    exact hn m' σ' ρ' h₄ tk₄ hK (R'.ext1 ex eI hoI hbase) (g₁.up.trans (g'.ext1 ex (Nat.le_of_eq hIa))) (F'.ext1 ex eI hoI)
structure ZipAt (h : Heap) (z TI TO i1 i2 l1 l2 : Addr) (k : Nat) : Prop where
  zip : IsZip h z TI TO .none
  ti : IsPair h TI (.ref i1) (.ref i2)
  to : ∃ a b, IsPair h TO a b
  it1 : h.IsListIter i1 l1 k
  it2 : h.IsListIter i2 l2 k
theorem ZipAt.keep {h h' : Heap} {z TI TO i1 i2 l1 l2 : Addr} {k : Nat} (x : ZipAt h z TI TO i1 i2 l1 l2 k) (hk : ∀ b o, h.get? b = some o → NoDict o → (∀ v, o.data ≠ .cell v) → (o.cls ≠ .type "list" ∧ o.cls ≠ .none) → h'.get? b = some o) : ZipAt h' z TI TO i1 i2 l1 l2 k := by
  obtain ⟨hz, hti, ⟨a, b, hto⟩, h1, h2⟩ := x
  obtain ⟨o1, e1, c1, d1⟩ := h1
  obtain ⟨o2, e2, c2, d2⟩ := h2
  exact ⟨hk _ _ hz (fun _ _ q => nomatch q) (fun _ q => nomatch q) ⟨show Value.type "zip" ≠ .type "list" by decide, fun q => nomatch q⟩, hk _ _ hti (fun _ _ q => nomatch q) (fun _ q => nomatch q) ⟨show Value.type "tuple" ≠ .type "list" by decide, fun q => nomatch q⟩,
    ⟨a, b, hk _ _ hto (fun _ _ q => nomatch q) (fun _ q => nomatch q) ⟨show Value.type "tuple" ≠ .type "list" by decide, fun q => nomatch q⟩⟩,
    ⟨o1, hk _ _ e1 (fun es n q => by rw [d1] at q; cases q) (fun v q => by rw [d1] at q; cases q) ⟨by rw [c1]; decide, by rw [c1]; decide⟩, c1, d1⟩,
    ⟨o2, hk _ _ e2 (fun es n q => by rw [d2] at q; cases q) (fun v q => by rw [d2] at q; cases q) ⟨by rw [c2]; decide, by rw [c2]; decide⟩, c2, d2⟩⟩
theorem ZipAt.pobj {X : Cx} {h : Heap} {z TI TO i1 i2 l1 l2 : Addr} {k : Nat} (x : ZipAt h z TI TO i1 i2 l1 l2 k) (hbad : X.bad TO) : ∀ b o, ZipP z TO i1 i2 b → h.get? b = some o → PObj X b o := by
  obtain ⟨hz, hti, ⟨a', b', hto⟩, h1, h2⟩ := x
  obtain ⟨o1, e1, c1, d1⟩ := h1
  obtain ⟨o2, e2, c2, d2⟩ := h2
  rintro b o (rfl | rfl | rfl | rfl) e
  · have hz' : h.get? b = _ := hz
    rw [hz'] at e; cases e
    exact ⟨fun _ _ q => (nomatch q), fun _ q => (nomatch q), show Value.type "zip" ≠ .type "list" by decide, .inl ⟨"zip", by simp [iterTypes], rfl⟩⟩
  · have hz' : h.get? b = _ := hto
    rw [hz'] at e; cases e
    exact ⟨fun _ _ q => (nomatch q), fun _ q => (nomatch q), show Value.type "tuple" ≠ .type "list" by decide, .inr ⟨rfl, hbad⟩⟩
  · rw [e1] at e; cases e
    exact ⟨(fun es n q => by rw [d1] at q; cases q), (fun v q => by rw [d1] at q; cases q), (by rw [c1]; decide), .inl ⟨"list_iterator", by simp [iterTypes], c1⟩⟩
  · rw [e2] at e; cases e
    exact ⟨(fun es n q => by rw [d2] at q; cases q), (fun v q => by rw [d2] at q; cases q), (by rw [c2]; decide), .inl ⟨"list_iterator", by simp [iterTypes], c2⟩⟩
inductive ZipInv (X : Cx) (k : Nat) (A : Around) (env : Env) (sc : Kinds) (s : Shared) (N : Nat) (I : Nat → Loc → Store → Prop) (S l1 l2 : Addr) (σ₁ : Store) (ρ₁ : Nat → Addr) (h₁ : Heap) (c : Nat) : Shared → Prop
  | mk {kk : Nat} {m' : Loc} {σ' : Store} {ρ' : Nat → Addr} {h' : Heap} {tk : Nat} : kk ≤ N → c = N + 1 - kk → I kk m' σ' → Rep X ρ' σ' h' → Go (Wr env) σ₁ ρ₁ h₁ σ' ρ' h' → Frm X env sc m' σ'.length ρ' h' → Ar X k A env h' → ZipAt h' (S + 4) (S + 2) (S + 3) S (S + 1) l1 l2 kk → ZipInv X k A env sc s N I S l1 l2 σ₁ ρ₁ h₁ c { s with heap := h', toks := tk }
theorem zqba {a b : Str} {ex ey : Expr} {body : List Stmt} {x1 : Nat} {pa pb pt pz pc : Pos} (cx : CxOk X) (h1 : isBindB sc a = true) (h2 : isBindB sc b = true) (hroom : 100 ≤ k) (hz : X.val ("zip" : Str) = some (.type "zip")) (h5 : isGlobB sc ("zip" : Str) = true) (hst : [ex, ey].all noStar = true)
    (hw : SL X k env sc [ex, ey] m σ noK fun vs σ => ∃ i j xs ys, vs = [.ref i, .ref j] ∧ itemsAt σ i = some xs ∧ itemsAt σ j = some ys ∧ ∃ (I : Nat → Loc → Store → Prop), I 0 m σ ∧
            (∀ j' m σ, j' < min xs.length ys.length → I j' m σ → ∃ x y, xs[j']? = some x ∧ ys[j']? = some y ∧ itemsAt σ i = some xs ∧ itemsAt σ j = some ys ∧ ∀ bd, SS (X.hide bd) k env sc (execs body env) (upd (upd m a x) b y) σ (loopN K (I (j' + 1)))) ∧
            (∀ m σ, I (min xs.length ys.length) m σ → (itemsAt σ i = some xs ∧ itemsAt σ j = some ys) ∧ K (.next m σ))) :
    SS X k env sc (exec (.For (.Tuple [.Name a pa, .Name b pb] x1 pt) (.Call (.Name ("zip" : Str) pz) [ex, ey] [] pc) body [] p) env) m σ K := by
  have hba := isBind h1
  have hbb := isBind h2
  intro A s ρ Q E ar R F hn hr er
  have hh : A.handled = none := ar.handled hroom
  have er' : ErE X env.frame σ ρ s noK E := fun _ _ _ _ _ _ q => q.elim
  refine wpAny_For ?_ (fun v => foldedSet_no rfl v)
  refine wpAny_Call_NameR (glob_sound cx R F (isGlob h5) hz ?_)
  refine callWith_gen (args_noStar _ hst) Kp.type (evalArgs_gen (args_noStar _ hst) ?_)
  refine hw _ A s ρ _ E ar R F er' fun vs σ₁ ρ₁ as h₁ tk₁ hf R₁ g₁ hvs ar₁ F₁ => ⟨R₁.base, ?_⟩
  obtain ⟨i, j, xs, ys, rfl, hi, hj, I, h0, hstep, hend⟩ := hf
  have e2 : ∃ u v, as = [u, v] ∧ Has X σ₁.length ρ₁ h₁ (.ref i) u ∧ Has X σ₁.length ρ₁ h₁ (.ref j) v := by
    cases hvs with | cons q1 q2 => cases q2 with | cons q2 q3 => cases q3; exact ⟨_, _, rfl, q1, q2⟩
  obtain ⟨u, v, rfl, hu, hv⟩ := e2
  obtain ⟨hil, rfl⟩ := hu.ref_inv
  obtain ⟨hjl, rfl⟩ := hv.ref_inv
  obtain ⟨_, its1, ⟨n1, ho1⟩, _⟩ := R₁.list hi
  obtain ⟨_, its2, ⟨n2, ho2⟩, _⟩ := R₁.list hj
  refine call_zip_2 (s := { s with heap := h₁, toks := tk₁ }) (l1 := ρ₁ i) (l2 := ρ₁ j) ⟨_, ho1, rfl, n1, rfl⟩ ⟨_, ho2, rfl, n2, rfl⟩ fun h₂ hzip hTI hTO hI1 hI2 hsz₂ hk₂ => ?_
  refine wpAny_pyIter_zip (s := { s with heap := h₂, toks := tk₁ }) hzip ?_
  dsimp only at hzip hTI hTO hI1 hI2 hsz₂ hk₂ ⊢
  have l1lt : ρ₁ i < h₁.objs.size := R₁.lt hil
  have l2lt : ρ₁ j < h₁.objs.size := R₁.lt hjl
  generalize hS : h₁.objs.size = S at *
  have D : ZipApart (S + 4) (S + 2) (S + 3) S (S + 1) (ρ₁ i) (ρ₁ j) := zipApart_of l1lt l2lt
  have hdead : ∀ b, S ≤ b → X.B.get? b = none := fun b hb => by
    cases e : X.B.get? b with
    | none => rfl
    | some o => exact absurd (Heap.lt_size (R₁.base _ _ e)) (by rw [hS]; exact Nat.not_lt.mpr hb)
  have hPnew : ∀ b, ZipP (S + 4) (S + 3) S (S + 1) b → S ≤ b := fun b q => zipP_new q
  -- under the hidden tuple
  let bd : Addr → Prop := fun b => X.bad b ∨ b = S + 3
  have t₂ : Turn (fun _ => False) h₁ h₂ := ⟨by rw [hS, hsz₂]; exact Nat.le_add_right _ _, fun b o _ e => hk₂ b o e⟩
  have hb₂ : ∀ b o, h₁.get? b = some o → bd b → X.bad b := fun b o e q => q.elim id fun q => by
    have := Heap.lt_size e
    rw [hS, q] at this
    exact absurd this (Nat.not_lt.mpr (Nat.le_add_right _ _))
  have np : ∀ b o, (fun _ : Addr => False) b → h₁.get? b = some o → PObj X b o := fun _ _ q => q.elim
  have R₂ : Rep (X.hide bd) ρ₁ σ₁ h₂ := R₁.turn hb₂ t₂ np (fun _ q => q.elim) (fun b q => by
    rcases q with q | rfl
    · obtain ⟨o, vs, n, e, r⟩ := R₁.bad b q
      exact ⟨o, vs, n, hk₂ _ _ e, r⟩
    · exact ⟨_, _, _, hTO, rfl, rfl⟩)
  have F₂ : Frm (X.hide bd) env sc m σ₁.length ρ₁ h₂ := F₁.turn hb₂ t₂ np
  have ar₂ : Ar (X.hide bd) k A env h₂ := ar₁.turn t₂ np
  have g₂ : Go (Wr env) σ₁ ρ₁ h₁ σ₁ ρ₁ h₂ := .ofGrow (by rw [hS, hsz₂]; exact Nat.le_add_right _ _) hk₂
  have hbdTO : (X.hide bd).bad (S + 3) := Or.inr rfl
  -- back from under it
  have out : ∀ b o, (∀ h : Heap, h.get? b = some o → X.bad b → (X.hide bd).bad b) := fun b o h _ q => Or.inl q
  have hg₁ : s.heap.objs.size ≤ S := by rw [← hS]; exact g₁.size
  refine codeAny_forLoop_any (ZipInv (X.hide bd) k A env sc s (min xs.length ys.length) I S (ρ₁ i) (ρ₁ j) σ₁ ρ₁ h₁) ?_ (min xs.length ys.length + 1)
      (.mk (kk := 0) (tk := tk₁) (Nat.zero_le _) rfl h0 R₂ g₂ F₂ ar₂ ⟨hzip, hTI, ⟨_, _, hTO⟩, hI1, hI2⟩)
  rintro c _ @⟨kk, m', σ', ρ', h', tk, hkk, rfl, hI, R', g', F', ar', zp⟩
  have hρi : ρ' i = ρ₁ i := g'.ext i hil
  have hρj : ρ' j = ρ₁ j := g'.ext j hjl
  have hP' := zp.pobj (X := X.hide bd) hbdTO
  obtain ⟨to1, to2, zto⟩ := zp.to
  by_cases hlt : kk < min xs.length ys.length
  · obtain ⟨x, y, hx, hy, hi', hj', hbody⟩ := hstep kk m' σ' hlt hI
    obtain ⟨_, its1', ⟨n1', ho1'⟩, hall1⟩ := R'.list hi'
    obtain ⟨_, its2', ⟨n2', ho2'⟩, hall2⟩ := R'.list hj'
    obtain ⟨ax, hax, hhx⟩ := hall1.get hx
    obtain ⟨ay, hay, hhy⟩ := hall2.get hy
    rw [hρi] at ho1'
    rw [hρj] at ho2'
    refine wpAny_pyNext_zip_item (s := { s with heap := h', toks := tk }) D zp.zip zp.ti zto zp.it1 zp.it2 ⟨_, ho1', rfl, n1', rfl⟩ ⟨_, ho2', rfl, n2', rfl⟩ (by simpa using hax) (by simpa using hay) fun h₄ a1 a2 a3 a4 a5 a6 hk₄ => ?_
    dsimp only at a1 a2 a3 a4 a5 a6 hk₄ ⊢
    refine wpAny_letOwnedTupleGo_zip (s := { s with heap := h₄, toks := tk }) a1 fun h₅ hz₅ hs₅ => ?_
    dsimp only at hs₅
    have hzs : S + 4 < h'.objs.size := Heap.lt_size zp.zip
    have hT₅ : IsPair h₅ h'.objs.size ax ay := hs₅.extBut _ _ (Nat.ne_of_gt hzs) a5
    refine wpAny_assign_Tuple (s := { s with heap := h₅, toks := tk }) hh ⟨_, hT₅, rfl, _, rfl⟩ rfl rfl fun h₆ hx₆ => ?_
    dsimp only at hx₆
    have up₆ : ∀ b o, h₅.get? b = some o → h₆.get? b = some o := fun b o e => hx₆ b o (Nat.ne_of_lt (Heap.lt_size e)) e
    have t₆ : Turn (ZipP (S + 4) (S + 3) S (S + 1)) h' h₆ := ⟨Nat.le_of_lt (Heap.lt_size (up₆ _ _ hT₅)), fun b o hb e => up₆ _ _ (hs₅.extBut _ _ (fun q => hb (.inl q)) (hk₄ b o (fun q => hb (.inl q)) (fun q => hb (.inr (.inl q))) (fun q => hb (.inr (.inr (.inl q)))) (fun q => hb (.inr (.inr (.inr q)))) e))⟩
    have keep₆ : ∀ b o, ¬ ZipP (S + 4) (S + 3) S (S + 1) b → h'.get? b = some o → h₆.get? b = some o := t₆.keep
    have zp₆ : ZipAt h₆ (S + 4) (S + 2) (S + 3) S (S + 1) (ρ₁ i) (ρ₁ j) (kk + 1) := by
      exact ⟨up₆ _ _ hz₅, keep₆ _ _ zipP_ti zp.ti, ⟨ax, ay, up₆ _ _ (hs₅.extBut _ _ D.TOz a2)⟩, (a3.extBut hs₅.extBut D.i1z).at fun o e => up₆ _ _ e, (a4.extBut hs₅.extBut D.i2z).at fun o e => up₆ _ _ e⟩
    have R₆ : Rep (X.hide bd) ρ' σ' h₆ := R'.turn (b' := bd) (fun b o e q => q) t₆ hP' (fun b q => hdead b (hPnew b q)) (fun b q => by
      rcases q with q | rfl
      · by_cases hb3 : b = S + 3
        · subst hb3; obtain ⟨a', b', e⟩ := zp₆.to; exact ⟨_, _, _, e, rfl, rfl⟩
        · obtain ⟨o, vs, n, e, c, d⟩ := R'.bad b (Or.inl q)
          refine ⟨o, vs, n, keep₆ b o (fun w => ?_) e, c, d⟩
          rcases (hP' b o w e).hid with ⟨T, hT, hc⟩ | ⟨_, _⟩
          · rw [c] at hc; cases hc; simp [iterTypes] at hT
          · rcases w with w | w | w | w
            · rw [w] at e; have := zp.zip; rw [this] at e; cases e; cases d
            · exact hb3 w
            · obtain ⟨o1, e1, c1, _⟩ := zp.it1; rw [w, e1] at e; cases e; rw [c1] at c; exact absurd c (by decide)
            · obtain ⟨o1, e1, c1, _⟩ := zp.it2; rw [w, e1] at e; cases e; rw [c1] at c; exact absurd c (by decide)
      · obtain ⟨a', b', e⟩ := zp₆.to; exact ⟨_, _, _, e, rfl, rfl⟩)
    have F₆ : Frm (X.hide bd) env sc m' σ'.length ρ' h₆ := F'.turn (b' := bd) (fun b o e q => q) t₆ hP'
    have ar₆ : Ar (X.hide bd) k A env h₆ := ar'.turn (b' := bd) t₆ hP'
    have G₆ : Go (Wr env) σ₁ ρ₁ h₁ σ' ρ' h₆ := g'.turn t₆ (by rw [hS]; exact hPnew)
    have hx₆' : Has (X.hide bd) σ'.length ρ' h₆ x ax := hhx.turn (b' := bd) (fun b o e q => q) t₆ hP'
    have hy₆' : Has (X.hide bd) σ'.length ρ' h₆ y ay := hhy.turn (b' := bd) (fun b o e q => q) t₆ hP'
    show wpAny _ A (do holding [ay] (assign (.Name a pa) env ax); do holding [] (assign (.Name b pb) env ay); pure ()) _ _ _
    refine wpAny_bind (wpAny_holding (wpAny_assign_Name (store_sound (X := X.hide bd) (s := { s with heap := h₆, toks := tk }) R₆ F₆ hba hx₆' fun h₇ tk₇ R₇ g₇ F₇ => ?_)))
    have zp₇ := zp₆.keep fun b o e q1 q2 q3 => g₇.obj R₆ F₆.wok e q1 q2 q3
    refine wpAny_bind (wpAny_holding (wpAny_assign_Name (store_sound (X := X.hide bd) (s := { s with heap := h₇, toks := tk₇ }) R₇ F₇ hbb (hy₆'.go R₆ g₇ F₆.wok) fun h₈ tk₈ R₈ g₈ F₈ => wpAny_pure ?_)))
    have zp₈ := zp₇.keep fun b o e q1 q2 q3 => g₈.obj R₇ F₇.wok e q1 q2 q3
    have G₈ := (G₆.trans g₇).trans g₈
    have ar₈ := (ar₆.go g₇).go g₈
    refine hbody bd A { s with heap := h₈, toks := tk₈ } ρ' _ _ ar₈ R₈ F₈ (fun m₉ σ₉ ρ₉ h₉ tk₉ hI₉ R₉ g₉ F₉ => ?_) (fun w σ₉ ρ₉ a₉ h₉ tk₉ hK R₉ g₉ hF₉ hw₉ => ?_) fun _ _ _ _ _ _ _ hK => hK.elim
    · exact ⟨min xs.length ys.length + 1 - (kk + 1), by (first | lia | omega), .mk (kk := kk + 1) hlt rfl hI₉ R₉ (G₈.trans g₉) F₉ (ar₈.go g₉) (zp₈.keep fun b o e q1 q2 q3 => g₉.obj R₈ F₈.wok e q1 q2 q3)⟩
    · have tr : Turn (fun _ => False) h₉ h₉ := ⟨Nat.le_refl _, fun _ _ _ e => e⟩
      have np' : ∀ b o, (fun _ : Addr => False) b → h₉.get? b = some o → PObj (X.hide bd) b o := fun _ _ q => q.elim
      obtain ⟨mm, hF₉⟩ := hF₉
      exact hr w σ₉ ρ₉ a₉ h₉ tk₉ hK (R₉.turn (b' := X.bad) (fun b o e q => Or.inl q) tr np' (fun _ q => q.elim) fun b q => R₉.bad b (Or.inl q)) (g₁.up.trans (G₈.trans g₉)) ⟨mm, hF₉.turn (b' := X.bad) (fun b o e q => Or.inl q) tr np'⟩ (hw₉.turn (b' := X.bad) (fun b o e q => Or.inl q) tr np')
  · have hkN : kk = min xs.length ys.length := by (first | lia | omega)
    subst hkN
    obtain ⟨⟨hi', hj'⟩, hK⟩ := hend m' σ' hI
    obtain ⟨_, its1', ⟨n1', ho1'⟩, hall1⟩ := R'.list hi'
    obtain ⟨_, its2', ⟨n2', ho2'⟩, hall2⟩ := R'.list hj'
    rw [hρi] at ho1'
    rw [hρj] at ho2'
    refine wpAny_sized (wpAny_pyNext_zip_end (s := { s with heap := h', toks := tk }) hh D zp.zip zp.ti zto zp.it1 zp.it2 ⟨_, ho1', rfl, n1', rfl⟩ ⟨_, ho2', rfl, n2', rfl⟩ (by
      have q1 := hall1.length
      have q2 := hall2.length
      by_cases q : xs.length ≤ ys.length
      · left; simp; (first | lia | omega)
      · right; simp; (first | lia | omega)) fun h₄ hk₄ hsz₄ => wpAny_execs_nil ?_)
    dsimp only at hk₄ hsz₄
    have t₄ : Turn (ZipP (S + 4) (S + 3) S (S + 1)) h' h₄ := ⟨hsz₄, fun b o hb e => hk₄ b o (fun q => hb (.inl q)) (fun q => hb (.inr (.inl q))) (fun q => hb (.inr (.inr (.inl q)))) (fun q => hb (.inr (.inr (.inr q)))) e⟩
    refine hn m' σ' ρ' h₄ tk hK (R'.turn (b' := X.bad) (fun b o e q => Or.inl q) t₄ hP' (fun b q => hdead b (hPnew b q)) fun b q => ?_) (g₁.up.trans (g'.turn t₄ (by rw [hS]; exact hPnew))) (F'.turn (b' := X.bad) (fun b o e q => Or.inl q) t₄ hP')
    obtain ⟨o, vs, n, e, c, d⟩ := R'.bad b (Or.inl q)
    refine ⟨o, vs, n, t₄.keep b o (fun w => ?_) e, c, d⟩
    obtain ⟨o', _, _, e', _⟩ := R₁.bad b q
    have := Heap.lt_size e'
    rw [hS] at this
    exact absurd this (Nat.not_lt.mpr (hPnew b w))
theorem zqbz {t : Expr} {body : List Stmt} (I : Nat → Loc → Store → Prop) (h0 : ∃ N, I N m σ)
    (hstep : ∀ N m σ, I N m σ → SV X k env sc t m σ (fun _ => False) fun c σ => (c = true → SS X k env sc (execs body env) m σ (loopN K fun m σ => ∃ N', N' < N ∧ I N' m σ)) ∧ (c = false → K (.next m σ))) :
    SS X k env sc (exec (.While t body [] p) env) m σ K := by
  intro A s ρ Q E ar R F hn hr er
  obtain ⟨N, h0⟩ := h0
  refine wpAny_While (codeAny_whileLoop (fun c s' => ∃ m' σ' ρ' h' tk, s' = { s with heap := h', toks := tk } ∧ I c m' σ' ∧ Rep X ρ' σ' h' ∧ Go (Wr env) σ ρ s.heap σ' ρ' h' ∧ Frm X env sc m' σ'.length ρ' h' ∧ Ar X k A env h') ?_ N
    ⟨m, σ, ρ, s.heap, s.toks, rfl, h0, R, .refl .., F, ar⟩)
  rintro c s' ⟨m', σ', ρ', h', tk, rfl, hI, R', g', F', ar'⟩
  refine hstep c m' σ' hI A { s with heap := h', toks := tk } ρ' _ _ ar' R' F' (fun b σ₁ ρ₁ h₁ tk₁ hf R₁ g₁ ar₁ F₁ => ?_) fun _ _ _ _ _ _ hK => hK.elim
  cases b with
  | true =>
    simp only [if_true]
    refine hf.1 rfl A { s with heap := h₁, toks := tk₁ } ρ₁ _ _ ar₁ R₁ F₁ (fun m₂ σ₂ ρ₂ h₂ tk₂ hI₂ R₂ g₂ F₂ => ?_) (fun w σ₂ ρ₂ a₂ h₂ tk₂ hK R₂ g₂ hF₂ hw₂ => ?_) fun _ _ _ _ _ _ _ hK => hK.elim
    · obtain ⟨N', hlt, hI'⟩ := hI₂
      exact ⟨N', hlt, m₂, σ₂, ρ₂, h₂, tk₂, rfl, hI', R₂, (g'.trans g₁.up).trans g₂, F₂, ar₁.go g₂⟩
    · exact hr w σ₂ ρ₂ a₂ h₂ tk₂ hK R₂ ((g'.trans g₁.up).trans g₂) hF₂ hw₂
  | false =>
    simp only [Bool.false_eq_true, if_false]
    exact wpAny_execs_nil (hn m' σ₁ ρ₁ h₁ tk₁ (hf.2 rfl) R₁ (g'.trans g₁.up) F₁)
end
end Mine

set_option Elab.async false
set_option autoImplicit false
set_option linter.unusedVariables false
namespace Mine
open PySem PySem.Spec PySem.Calls PyProof.Rows
theorem zip_lookup {names : List Str} {vals : List Value} (hlen : vals.length = names.length) {n : Str} (hn : n ∈ names) : ((names.zip vals).lookup n).isSome = true := by
  induction names generalizing vals with
  | nil => simp at hn
  | cons a r ih =>
    cases vals with
    | nil => simp at hlen
    | cons v vs =>
      simp only [List.zip_cons_cons, List.lookup_cons]
      cases hb : n == a with
      | true => rfl
      | false =>
        have : n ∈ r := by
          rcases List.mem_cons.mp hn with rfl | h
          · simp at hb
          · exact h
        simpa using ih (by simpa using hlen) this
theorem zip_filterMap {names : List Str} (hnd : names.Nodup) {vals : List Value} (hlen : vals.length = names.length) (pre : List (Str × Value)) (hpre : ∀ n ∈ names, pre.lookup n = none) :
    names.filterMap (fun n => ((pre ++ names.zip vals).lookup n).map (n, ·)) = names.zip vals := by
  induction names generalizing vals pre with
  | nil => simp
  | cons a r ih =>
    cases vals with
    | nil => simp at hlen
    | cons v vs =>
      obtain ⟨h1, h2⟩ := List.nodup_cons.mp hnd
      have e1 : (pre ++ (a, v) :: r.zip vs).lookup a = some v := by
        rw [List.lookup_append, hpre a List.mem_cons_self]
        simp
      simp only [List.zip_cons_cons, List.filterMap_cons, e1, Option.map_some]
      congr 1
      have := ih h2 (vals := vs) (by simpa using hlen) (pre ++ [(a, v)]) (fun n hn => by
        rw [List.lookup_append, hpre n (List.mem_cons_of_mem _ hn)]
        have : n ≠ a := fun q => h1 (q ▸ hn)
        have hb : (n == a) = false := by simpa using this
        simp [List.lookup_cons, hb])
      simpa using this
theorem bind_plain {fd : FuncData} {names : List Str} {vals : List Value} (h1 : fd.params.posonlyargs = []) (h2 : fd.params.args.map (·.arg) = names) (h3 : fd.params.vararg = none) (h4 : fd.params.kwonlyargs = []) (h5 : fd.params.kwarg = none)
    (h6 : fd.defaults = .none) (hnd : names.Nodup) (hlen : vals.length = names.length) : bindArgs fd ⟨vals, []⟩ = pure (names.zip vals) := by
  have e0 : seqItems? Value.none = pure none := rfl
  have em : (names.filter fun n => ((names.zip vals).lookup n).isNone) = [] := by
    rw [List.filter_eq_nil_iff]
    intro n hn
    have := zip_lookup hlen hn
    simp only [Option.isNone_iff_eq_none]
    intro q
    rw [q] at this; cases this
  have ef := zip_filterMap hnd hlen [] (by simp)
  simp only [List.nil_append] at ef
  unfold bindArgs
  simp only [h1, h2, h3, h4, h5, h6, e0, List.map_nil, List.nil_append, List.append_nil, List.forIn_nil, pure_bind, Option.getD_none, List.length_nil, Nat.zero_sub, List.drop_nil, Nat.sub_zero, List.take_length, em, List.isEmpty_nil,
    Bool.not_true, Bool.false_eq_true, if_false, List.drop_length, List.zip_nil_left, ef, Option.isNone_none, Bool.and_true, gt_iff_lt, hlen, Nat.lt_irrefl, decide_false]
noncomputable def RefLt (n : Nat) : V → Prop
  | .ref i => i < n
  | .zip i j => i < n ∧ j < n
  | _ => True
noncomputable def RenV (π : Nat → Nat) (n : Nat) : V → V → Prop
  | .ref i, w => i < n ∧ w = .ref (π i)
  | .zip _ _, _ => False
  | v, w => w = v
inductive RenAll (π : Nat → Nat) (n : Nat) : List V → List V → Prop
  | nil : RenAll π n [] []
  | cons {v w vs ws} : RenV π n v w → RenAll π n vs ws → RenAll π n (v :: vs) (w :: ws)
noncomputable def RenC (π : Nat → Nat) (n : Nat) : Cell → Cell → Prop
  | .lst xs, .lst ys => RenAll π n xs ys
  | .dct, .dct => True
  | _, _ => False
structure Emb (σ σ₁ σ' : Store) (v₁ v : V) (π : Nat → Nat) : Prop where
  old : ∀ i, i < σ.length → π i = i
  len : σ.length ≤ σ'.length
  lt : ∀ i, i < σ'.length → π i < σ₁.length
  inj : ∀ i j, i < σ'.length → j < σ'.length → π i = π j → i = j
  cell : ∀ i, i < σ'.length → (i < σ.length ∧ σ'[i]? = σ[i]? ∧ σ₁[i]? = σ[i]?) ∨ (∃ c₁ c', σ₁[π i]? = some c₁ ∧ σ'[i]? = some c' ∧ RenC π σ'.length c' c₁)
  val : RenV π σ'.length v v₁
section
variable {X : Cx} {σ σ₁ σ' : Store} {ρ ρ₁ : Nat → Addr} {h h₁ : Heap} {v₁ v : V} {π : Nat → Nat} {a : Value}
theorem Has.bound {n : Nat} (x : Has X n ρ h v a) : RefLt n v := by
  cases x <;> first | exact trivial | assumption
theorem HasAll.bound {n : Nat} {vs : List V} {as : List Value} (x : HasAll X n ρ h vs as) : ∀ v ∈ vs, RefLt n v := by
  induction x with
  | nil => intro v hv; simp at hv
  | cons h1 _ ih =>
    intro v hv
    rcases List.mem_cons.mp hv with rfl | hv
    · exact h1.bound
    · exact ih v hv
theorem Has.rebase {n₀ n₁ n' : Nat} {ρ' : Nat → Addr} (x : Has X n₁ ρ₁ h v a) (hb : RefLt n₀ v) (hn : n₀ ≤ n') (hρ : ∀ i, i < n₀ → ρ' i = ρ₁ i) : Has X n' ρ' h v a := by
  cases x with
  | d r => exact .d r
  | ref hi => rw [← hρ _ hb]; exact .ref (Nat.lt_of_lt_of_le hb hn)
  | exc h1 h2 h3 h4 h5 => exact .exc h1 h2 h3 h4 h5
  | glob h1 => exact .glob h1
  | rng h1 h2 => exact .rng h1 h2
theorem HasAll.rebase {n₀ n₁ n' : Nat} {ρ' : Nat → Addr} {vs : List V} {as : List Value} (x : HasAll X n₁ ρ₁ h vs as) (hb : ∀ v ∈ vs, RefLt n₀ v) (hn : n₀ ≤ n') (hρ : ∀ i, i < n₀ → ρ' i = ρ₁ i) : HasAll X n' ρ' h vs as := by
  induction x with
  | nil => exact .nil
  | cons h1 _ ih => exact .cons (h1.rebase (hb _ List.mem_cons_self) hn hρ) (ih fun v hv => hb v (List.mem_cons_of_mem _ hv))
theorem Has.ren {n₁ n' : Nat} (x : Has X n₁ ρ₁ h v₁ a) (r : RenV π n' v v₁) : Has X n' (fun i => ρ₁ (π i)) h v a := by
  cases v with
  | ref i =>
    obtain ⟨hi, rfl⟩ := r
    cases x with
    | ref _ => exact .ref (ρ := fun i => ρ₁ (π i)) hi
  | zip i j => exact r.elim
  | d y => cases (r : v₁ = .d y); exact .d x.d_rdc
  | exc c => cases (r : v₁ = .exc c); cases x with | exc h1 h2 h3 h4 h5 => exact .exc h1 h2 h3 h4 h5
  | glob c => cases (r : v₁ = .glob c); cases x with | glob h1 => exact .glob h1
  | rng lo hi => cases (r : v₁ = .rng lo hi); cases x with | rng h1 h2 => exact .rng h1 h2
theorem HasAll.ren {n₁ n' : Nat} {vs ws : List V} {as : List Value} (r : RenAll π n' vs ws) (x : HasAll X n₁ ρ₁ h ws as) : HasAll X n' (fun i => ρ₁ (π i)) h vs as := by
  induction r generalizing as with
  | nil => cases x; exact .nil
  | cons h1 _ ih => cases x with | cons x1 x2 => exact .cons (x1.ren h1) (ih x2)
theorem Emb.rep {W : Addr → Prop} (e : Emb σ σ₁ σ' v₁ v π) (R : Rep X ρ σ h) (R₁ : Rep X ρ₁ σ₁ h₁) (g : Go W σ ρ h σ₁ ρ₁ h₁) (hv : Has X σ₁.length ρ₁ h₁ v₁ a) :
    Rep X (fun i => ρ₁ (π i)) σ' h₁ ∧ Go W σ ρ h σ' (fun i => ρ₁ (π i)) h₁ ∧ Has X σ'.length (fun i => ρ₁ (π i)) h₁ v a := by
  have hge : ∀ i, σ.length ≤ i → i < σ'.length → σ.length ≤ π i := fun i h1 h2 => by
    by_cases hlt : π i < σ.length
    · have := e.inj (π i) i (Nat.lt_of_lt_of_le hlt e.len) h2 (e.old _ hlt)
      (first | lia | omega)
    · (first | lia | omega)
  refine ⟨⟨R₁.base, ?_, ?_, ?_, R₁.bad⟩, ⟨g.size, g.keep, g.dicts, e.len, ?_, ?_⟩, hv.ren e.val⟩
  · intro i c hc
    have hi := (List.getElem?_eq_some_iff.mp hc).1
    rcases e.cell i hi with ⟨h1, h2, h3⟩ | ⟨c₁, c', h1, h2, h3⟩
    · rw [hc] at h2
      rw [← h2] at h3
      obtain ⟨oc, its, hp, sh, ha⟩ := R₁.cell i c h3
      obtain ⟨_, its0, _, _, ha0⟩ := R.cell i c h2.symm
      show CellAt X σ'.length (fun i => ρ₁ (π i)) h₁ (ρ₁ (π i)) c
      rw [e.old i h1]
      exact ⟨oc, its, hp, sh, ha.rebase ha0.bound e.len fun j hj => by show ρ₁ (π j) = ρ₁ j; rw [e.old j hj]⟩
    · rw [hc] at h2; cases h2
      obtain ⟨oc, its, hp, sh, ha⟩ := R₁.cell (π i) c₁ h1
      cases c <;> cases c₁ <;> first | exact h3.elim | exact ⟨oc, its, hp, sh, HasAll.ren h3 ha⟩ | exact ⟨oc, its, hp, sh, by cases ha; exact .nil⟩
  · intro i c hc ho
    have hi := (List.getElem?_eq_some_iff.mp hc).1
    rcases e.cell i hi with ⟨h1, h2, h3⟩ | ⟨c₁, c', h1, h2, h3⟩
    · rw [hc] at h2
      rw [← h2] at h3
      show X.B.get? (ρ₁ (π i)) = none
      rw [e.old i h1]
      exact R₁.own i c h3 ho
    · rw [hc] at h2; cases h2
      refine R₁.own (π i) c₁ h1 ?_
      cases c <;> cases c₁ <;> first | exact h3.elim | exact ho
  · intro i j hi hj q
    exact e.inj i j hi hj (R₁.inj _ _ (e.lt i hi) (e.lt j hj) q)
  · intro i hi
    show ρ₁ (π i) = ρ i
    rw [e.old i hi]; exact g.ext i hi
  · intro i h1 h2
    exact g.new _ (hge i h1 h2) (e.lt i h2)
theorem Emb.pure {τ : Store} {x : PyData} : Emb σ (σ ++ τ) σ (.d x) (.d x) id where
  old := fun _ _ => rfl
  len := Nat.le_refl _
  lt := fun i hi => by simp only [List.length_append, id]; (first | lia | omega)
  inj := fun _ _ _ _ q => q
  cell := fun i hi => .inl ⟨hi, rfl, List.getElem?_append_left hi⟩
  val := rfl
theorem renAll_flat {n : Nat} : ∀ {xs : List V}, (∀ v ∈ xs, ∃ x, v = .d x) → RenAll π n xs xs
  | [], _ => .nil
  | v :: r, h => by
    obtain ⟨x, rfl⟩ := h v List.mem_cons_self
    exact .cons rfl (renAll_flat fun w hw => h w (List.mem_cons_of_mem _ hw))
theorem Emb.newCell {τ : Store} {c : Cell} {j : Nat} (hj : τ[j]? = some c) (hf : RenC (fun i => if i = σ.length then σ.length + j else i) (σ ++ [c]).length c c) :
    Emb σ (σ ++ τ) (σ ++ [c]) (.ref (σ.length + j)) (.ref σ.length) (fun i => if i = σ.length then σ.length + j else i) where
  old := fun i hi => if_neg (Nat.ne_of_lt hi)
  len := by simp
  lt := fun i hi => by
    have := (List.getElem?_eq_some_iff.mp hj).1
    simp only [List.length_append, List.length_cons, List.length_nil] at hi ⊢
    split <;> (first | lia | omega)
  inj := fun i k hi hk q => by
    simp only [List.length_append, List.length_cons, List.length_nil] at hi hk
    by_cases h1 : i = σ.length <;> by_cases h2 : k = σ.length <;> simp only [h1, h2, if_true, if_false] at q <;> (first | lia | omega)
  cell := fun i hi => by
    simp only [List.length_append, List.length_cons, List.length_nil] at hi
    by_cases h1 : i < σ.length
    · exact .inl ⟨h1, List.getElem?_append_left h1, List.getElem?_append_left h1⟩
    · have : i = σ.length := by (first | lia | omega)
      subst this
      refine .inr ⟨c, c, ?_, by simp, hf⟩
      rw [if_pos rfl, List.getElem?_append_right (by (first | lia | omega))]
      simpa using hj
  val := ⟨by simp, by simp⟩
theorem Emb.newList {τ : Store} {xs : List V} {j : Nat} (hj : τ[j]? = some (.lst xs)) (hf : ∀ v ∈ xs, ∃ x, v = .d x) :
    Emb σ (σ ++ τ) (σ ++ [.lst xs]) (.ref (σ.length + j)) (.ref σ.length) (fun i => if i = σ.length then σ.length + j else i) := .newCell hj (renAll_flat hf)
end
end Mine

set_option Elab.async false
set_option autoImplicit false
set_option linter.unusedVariables false
namespace Mine
open PySem PySem.Spec PySem.Calls PyProof.Rows
inductive FnAt (X : Cx) (f : Str) (names : List Str) (body : List Stmt) (scope : Scope) : Prop
  | mk (a : Addr) (o : Obj) (pm : _) (code : _) (doc : _) (params : _) : X.mg f = some (.ref a) → X.B.get? a = some o → o.data = .func (docDef f params body scope pm code doc) → X.B.CodeRec code f →
    params.posonlyargs = [] → params.args.map (·.arg) = names → params.vararg = none → params.kwonlyargs = [] → params.kwarg = none → FnAt X f names body scope
structure IsFn (X : Cx) (f : Str) (names : List Str) (body : List Stmt) (scope : Scope) : Prop where
  fn : FnAt X f names body scope
noncomputable def fnOkB (names : List Str) (scope : Scope) : Bool :=
  scope.kind == .function && !scope.isGenerator && !scope.isCoroutine && names.all (fun n => scope.names.lookup n == some .local || scope.names.lookup n == some .cell) &&
    scope.names.all (fun y => y.2 != .free) && (scope.names.lookup ("__debug__" : Str)).isNone && (scope.names.lookup ("__classdict__" : Str)).isNone && decide names.Nodup
structure FnOk (names : List Str) (scope : Scope) : Prop where
  kind : scope.kind = .function
  gen : scope.isGenerator = false
  cor : scope.isCoroutine = false
  params : ∀ n ∈ names, scope.names.lookup n = some .local ∨ scope.names.lookup n = some .cell
  nofree : ∀ y ∈ scope.names, y.2 ≠ .free
  debug : scope.names.lookup ("__debug__" : Str) = none
  classdict : scope.names.lookup ("__classdict__" : Str) = none
  nodup : names.Nodup
theorem fnOk_of {names : List Str} {scope : Scope} (h : fnOkB names scope = true) : FnOk names scope := by
  unfold fnOkB at h
  simp only [Bool.and_eq_true, beq_iff_eq, List.all_eq_true, bne_iff_ne, ne_eq, Bool.or_eq_true, Option.isNone_iff_eq_none, Bool.not_eq_true', decide_eq_true_eq] at h
  obtain ⟨⟨⟨⟨⟨⟨⟨h1, h2⟩, h3⟩, h4⟩, h5⟩, h6⟩, h7⟩, h8⟩ := h
  exact ⟨h1, h2, h3, h4, h5, h6, h7, h8⟩
theorem cellsFrom_isSome {x : Str} : ∀ (names : List (Str × NameKind)) (n : Nat) (acc : List (Str × Addr)), names.lookup x = some .cell ∨ (acc.lookup x).isSome = true → ((cellsFrom n names acc).lookup x).isSome = true
  | [], _, _, h => h.elim (fun e => by simp at e) id
  | (y, k) :: r, n, acc, h => by
    unfold cellsFrom
    by_cases hk : (k == .cell) = true
    · rw [if_pos hk]
      refine cellsFrom_isSome r (n + 1) ((y, n) :: acc) ?_
      by_cases hy : (x == y) = true
      · exact .inr (by rw [List.lookup_cons, hy]; rfl)
      · refine h.imp (fun e => ?_) fun e => ?_
        · rw [List.lookup_cons] at e; simpa only [hy] using e
        · rw [List.lookup_cons]; simpa only [hy] using e
    · rw [if_neg hk]
      refine cellsFrom_isSome r n acc ?_
      by_cases hy : (x == y) = true
      · refine .inr (h.elim (fun e => ?_) id)
        rw [List.lookup_cons, hy] at e
        exact absurd (by rw [Option.some.inj e]; rfl) hk
      · refine h.imp (fun e => ?_) id
        rw [List.lookup_cons] at e; simpa only [hy] using e
section
variable {kd : Str → Option NameKind}
theorem bindL_other {x : Str} : ∀ (names : List Str) (vals : List Value) (m : Str → Option Value), x ∉ names → bindL kd (names.zip vals) m x = m x
  | [], vals, m, _ => by simp [bindL]
  | a :: r, [], m, _ => by simp [bindL]
  | a :: r, v :: vs, m, h => by
    simp only [List.zip_cons_cons, bindL]
    rw [bindL_other r vs _ fun q => h (List.mem_cons_of_mem _ q)]
    split
    · exact if_neg fun q : x = a => h (q ▸ List.mem_cons_self)
    · rfl
theorem bindC_other {x : Str} : ∀ (names : List Str) (vals : List Value) (m : Str → Option Value), x ∉ names → bindC kd (names.zip vals) m x = m x
  | [], vals, m, _ => by simp [bindC]
  | a :: r, [], m, _ => by simp [bindC]
  | a :: r, v :: vs, m, h => by
    simp only [List.zip_cons_cons, bindC]
    rw [bindC_other r vs _ fun q => h (List.mem_cons_of_mem _ q)]
    split
    · rfl
    · exact if_neg fun q : x = a => h (q ▸ List.mem_cons_self)
variable {X : Cx} {n : Nat} {ρ : Nat → Addr} {h : Heap}
theorem bind_has {x : Str} : ∀ {names : List Str} {vs : List V} {vals : List Value} (m : Str → Option Value), names.Nodup → HasAll X n ρ h vs vals → ∀ {v : V}, (names.zip vs).lookup x = some v →
    ∃ a, Has X n ρ h v a ∧ (kd x = some .local → bindL kd (names.zip vals) m x = some a) ∧ (kd x ≠ some .local → bindC kd (names.zip vals) m x = some a)
  | [], vs, vals, m, _, _, v, e => by simp at e
  | a :: r, [], _, m, _, .nil, v, e => by simp at e
  | a :: r, w :: ws, _, m, hnd, .cons (a := b) (as := bs) h1 h2, v, e => by
    obtain ⟨n1, n2⟩ := List.nodup_cons.mp hnd
    simp only [List.zip_cons_cons, List.lookup_cons] at e
    cases hb : x == a with
    | true =>
      rw [hb] at e; cases e
      have hxa := beq_iff_eq.mp hb
      subst hxa
      refine ⟨b, h1, fun hk => ?_, fun hk => ?_⟩
      · simp only [List.zip_cons_cons, bindL]
        rw [bindL_other r bs _ n1, if_pos hk]; exact if_pos rfl
      · simp only [List.zip_cons_cons, bindC]
        rw [bindC_other r bs _ n1, if_neg hk]; exact if_pos rfl
    | false =>
      rw [hb] at e
      simp only [List.zip_cons_cons, bindL, bindC]
      obtain ⟨q, hq, h3, _⟩ := bind_has (if kd a = some .local then (fun y => if y = a then some b else m y) else m) n2 h2 e
      obtain ⟨q', hq', _, h4⟩ := bind_has (if kd a = some .local then m else (fun y => if y = a then some b else m y)) n2 h2 e
      by_cases hk : kd x = some .local
      · exact ⟨q, hq, h3, fun hn => absurd hk hn⟩
      · exact ⟨q', hq', fun hl => absurd hl hk, h4⟩
end
noncomputable def retK (σ : Store) (K : OutE → Prop) : OutS → Prop
  | .next _ σ₁ => ∃ v σ' π, Emb σ σ₁ σ' (.d .none) v π ∧ K (.val v σ')
  | .ret v₁ σ₁ => ∃ v σ' π, Emb σ σ₁ σ' v₁ v π ∧ K (.val v σ')
  | .exn _ _ _ => False
inductive FnP (X : Cx) (f : Str) (names : List Str) (body : List Stmt) (scope : Scope) (Pr : Env → Prop) : Prop
  | mk (a : Addr) (o : Obj) (pm : _) (code : _) (doc : _) (params : _) : X.mg f = some (.ref a) → X.B.get? a = some o → o.data = .func (docDef f params body scope pm code doc) → X.B.CodeRec code f →
    params.posonlyargs = [] → params.args.map (·.arg) = names → params.vararg = none → params.kwonlyargs = [] → params.kwarg = none → (∀ L, Pr (callEnvC (docDef f params body scope pm code doc) L a)) → FnP X f names body scope Pr
theorem valid_fnP {X : Cx} {k : Nat} {f : Str} {names : List Str} {body : List Stmt} {scope : Scope} {T : Contract} {Pr : Env → Prop} (cx : CxOk X) (hf : FnP X f names body scope Pr) (hok : fnOkB names scope = true)
    (hb : ∀ vs σ K, T vs σ K → vs.length = names.length ∧ ∀ env, Pr env → SS X k env (kindsOf scope.names) (execs body env) (fun y => (names.zip vs).lookup y) σ (retK σ K)) : ValidF X (k + 1) f T := by
  obtain ⟨a, o, pm, code, doc, params, hmg, ho, hd, hcd, p1, p2, p3, p4, p5, hPr⟩ := hf
  have fo := fnOk_of hok
  refine ⟨.ref a, by unfold Cx.val; rw [hmg]; rfl, Kp.func ho hd, ?_⟩
  intro vs σ K hT A s ρ vals Q E ar R hall hokE erE
  obtain ⟨hlen, hw⟩ := hb vs σ K hT
  have hlen' : vals.length = names.length := by rw [← hall.length]; exact hlen
  have hdep := ar.depth
  refine wpAny_call (codeAny_call_cells (binds := names.zip vals) (by (first | lia | omega)) (R.base _ _ ho) hd (cx.nolimit.keeps R.base) (hcd.keeps R.base) rfl
    (bind_plain p1 p2 p3 p4 p5 rfl fo.nodup hlen') rfl (fun x hx => ?_) (fun s₁ ic => ?_) fo.cor fo.gen fo.kind)
  · have hx1 : x.1 ∈ names := (List.of_mem_zip hx).1
    rcases fo.params x.1 hx1 with q | q
    · exact .inl q
    · exact .inr ⟨q, cellsFrom_isSome _ _ _ (.inl q)⟩
  · obtain ⟨⟨⟨h₁, tk₁, rfl⟩, hns, hkeep, hfresh⟩, hcell, hapart, habove⟩ := ic
    dsimp only at hns hkeep
    have henv : (callEnvC (docDef f params body scope pm code doc) s.heap.objs.size a).locals = s.heap.objs.size := rfl
    have hPe := hPr s.heap.objs.size
    generalize hE : callEnvC (docDef f params body scope pm code doc) s.heap.objs.size a = env at *
    have hsc : env.scope = scope := by rw [← hE]; rfl
    have hfr : env.frame = some env.locals := by rw [← hE]; rfl
    have hz : s.heap.objs.size ≤ h₁.objs.size := by
      obtain ⟨o', es, ep, e', _⟩ := hns
      rw [henv] at e'
      exact Nat.le_of_lt (Heap.lt_size e')
    have hkd : ∀ x, env.kindOf x = scope.names.lookup x := fun x => by unfold Env.kindOf; rw [hsc]
    have R₁ : Rep X ρ σ h₁ := R.grow hkeep
    have g₁ : Go Nowhere σ ρ s.heap σ ρ h₁ := .ofGrow hz hkeep
    have hall₁ := hall.go R g₁ .nowhere
    have hnone : ∀ b, s.heap.objs.size ≤ b → X.B.get? b = none := fun b hb => by
      cases e : X.B.get? b with
      | none => rfl
      | some o => exact absurd (Heap.lt_size (R.base _ _ e)) (Nat.not_lt.mpr hb)
    have F₁ : Frm X env (kindsOf scope.names) (fun y => (names.zip vs).lookup y) σ.length ρ h₁ := {
      kind := by rw [hsc]; exact fo.kind
      glob := by rw [← hE]; rfl
      bi := by rw [← hE]; rfl
      kinds := {
        loc := fun x hx => (hkd x).trans hx
        cell := fun x hx => (hkd x).trans hx
        free := fun x hx => absurd rfl (fo.nofree _ (mem_lookup hx))
        glob := fun x hx => (hkd x).trans hx
        debug := fo.debug
        classdict := fo.classdict }
      ns := ⟨_, hns, fun x v hx hv => by
        obtain ⟨b, h1, h2, _⟩ := bind_has (kd := env.kindOf) (fun _ => none) fo.nodup hall₁ hv
        exact ⟨b, h2 ((hkd x).trans hx), h1⟩⟩
      cells := fun x hx => by
        have hx' : scope.names.lookup x = some .cell := by
          rcases hx with q | q
          · exact q
          · exact absurd rfl (fo.nofree _ (mem_lookup q))
        have hcs : env.cells = cellsFrom (s.heap.objs.size + 1) scope.names [] := by rw [← hE]; rfl
        have := cellsFrom_isSome scope.names (s.heap.objs.size + 1) [] (.inl hx')
        rw [← hcs] at this
        obtain ⟨c, hc⟩ := Option.isSome_iff_exists.mp this
        refine ⟨c, _, hc, hcell x c hc, fun v hv => ?_⟩
        obtain ⟨b, h1, _, h2⟩ := bind_has (kd := env.kindOf) (fun _ => none) fo.nodup hall₁ hv
        exact ⟨b, h2 (by rw [hkd x, hx']; decide), h1⟩
      isCells := fun x c hc => ⟨_, hcell x c hc⟩
      sepL := fun i hi q => by
        have := R.lt hi
        rw [q, henv] at this
        exact Nat.lt_irrefl _ this
      newL := hnone _ (by rw [henv]; exact Nat.le_refl _)
      newC := fun x c hc => hnone c (by have := habove x c (mem_of_lookup hc); rw [henv] at this; exact Nat.le_of_lt this)
      apart := fun x y c hx hy => name_of_addr hapart (mem_of_lookup hx) (mem_of_lookup hy) }
    have ar₁ : Ar X k (A.deeper env) env h₁ := {
      handled := fun q => ar.handled (by (first | lia | omega))
      depth := by show A.depth + 1 + k < recursionLimit; (first | lia | omega)
      units := by show A.units + 3 + 20 * k + 200 < cLine; have := ar.units; (first | lia | omega)
      stack := by
        obtain ⟨l, h1, h3⟩ := ar.stack
        refine ⟨env, l, ?_, rfl, ?_⟩
        · show A.frames.map (env :: ·) = _
          rw [h1]; rfl
        · intro e he
          rcases List.mem_cons.mp he with rfl | he
          · obtain ⟨o', es, ep, e', d, _⟩ := hns
            exact ⟨by rw [hsc, fo.kind]; decide, _, o', es, ep, hfr, hnone _ (by rw [henv]; exact Nat.le_refl _), e', d⟩
          · exact h3.go g₁ e he }
    have hWr : ∀ b o, s.heap.get? b = some o → Wr env b → False := fun b o e hb => by
      have hlt := Heap.lt_size e
      rcases hb with q | ⟨x, hx⟩
      · rw [q, henv] at hlt; exact Nat.lt_irrefl _ hlt
      · have := habove x b (mem_of_lookup hx); rw [henv] at this; exact absurd hlt (Nat.not_lt.mpr (Nat.le_of_lt this))
    have fin : ∀ {v₁ σ₁ ρ₁ a₁ h' v σ' π} {tk : Nat}, Emb σ σ₁ σ' v₁ v π → K (.val v σ') → Rep X ρ₁ σ₁ h' → Go (Wr env) σ ρ h₁ σ₁ ρ₁ h' → Has X σ₁.length ρ₁ h' v₁ a₁ → Q a₁ { s with heap := h', toks := tk } := by
      intro v₁ σ₁ ρ₁ a₁ h' v σ' π tk e hK R' g' hv
      have G : Go (Wr env) σ ρ s.heap σ₁ ρ₁ h' := g₁.up.trans g'
      obtain ⟨Rf, gf, hf⟩ := e.rep R R' G hv
      exact hokE v σ' _ a₁ h' tk hK Rf (gf.weaken fun b o e q => hWr b o e q) hf
    refine hw env hPe (A.deeper env) { s with heap := h₁, toks := tk₁ } ρ _ _ ar₁ R₁ F₁ (fun m' σ₁ ρ₁ h' tk hK R' g' F' => ?_) (fun v₁ σ₁ ρ₁ a₁ h' tk hK R' g' _ hv => ?_) fun _ _ _ _ _ _ _ hK => hK.elim
    · obtain ⟨v, σ', π, e, hK⟩ := hK
      exact fin e hK R' g' .ofNone
    · obtain ⟨v, σ', π, e, hK⟩ := hK
      exact fin e hK R' g' hv
theorem valid_fn {X : Cx} {k : Nat} {f : Str} {names : List Str} {body : List Stmt} {scope : Scope} {T : Contract} (cx : CxOk X) (hf : IsFn X f names body scope) (hok : fnOkB names scope = true)
    (hb : ∀ vs σ K, T vs σ K → vs.length = names.length ∧ ∀ env, SS X k env (kindsOf scope.names) (execs body env) (fun y => (names.zip vs).lookup y) σ (retK σ K)) : ValidF X (k + 1) f T := by
  obtain ⟨a, o, pm, code, doc, params, hmg, ho, hd, hcd, p1, p2, p3, p4, p5⟩ := hf.fn
  exact valid_fnP (Pr := fun _ => True) cx ⟨a, o, pm, code, doc, params, hmg, ho, hd, hcd, p1, p2, p3, p4, p5, fun _ => trivial⟩ hok fun vs σ K hT => ⟨(hb vs σ K hT).1, fun env _ => (hb vs σ K hT).2 env⟩
end Mine

set_option Elab.async false
set_option autoImplicit false
set_option linter.unusedVariables false
namespace Mine
open PySem PySem.Spec PySem.Calls PyProof.Rows
noncomputable def biTable : List (Str × Value) := [("len", .builtin "len"), ("isinstance", .builtin "isinstance"), ("sum", .builtin "sum"), ("min", .builtin "min"), ("max", .builtin "max"), ("abs", .builtin "abs"),
  ("sorted", .builtin "sorted"), ("all", .builtin "all"),
  ("list", .type "list"), ("range", .type "range"), ("int", .type "int"), ("bool", .type "bool"), ("str", .type "str"), ("tuple", .type "tuple"), ("zip", .type "zip"), ("dict", .type "dict"), ("ValueError", .type "ValueError")]
noncomputable def CxB (X : Cx) : Prop := ∀ p ∈ biTable, X.val p.1 = some p.2
noncomputable def lenT : Contract := fun vs σ K => match vs with
  | [.ref i] => ∃ xs, itemsAt σ i = some xs ∧ xs.length ≤ 1000000 ∧ K (.val (.d (.int xs.length)) σ)
  | [.d (.tuple xs)] => xs.length ≤ 1000000 ∧ K (.val (.d (.int xs.length)) σ)
  | [.d (.str x)] => x.length ≤ 1000000 ∧ K (.val (.d (.int x.length)) σ)
  | _ => False
section
variable {X : Cx} {k : Nat}
theorem HasAll.one_inv {n : Nat} {ρ : Nat → Addr} {h : Heap} {v : V} {as : List Value} (x : HasAll X n ρ h [v] as) : ∃ a, as = [a] ∧ Has X n ρ h v a := by
  cases x with | cons h1 h2 => cases h2; exact ⟨_, rfl, h1⟩
theorem HasAll.two_inv {n : Nat} {ρ : Nat → Addr} {h : Heap} {v w : V} {as : List Value} (x : HasAll X n ρ h [v, w] as) : ∃ a b, as = [a, b] ∧ Has X n ρ h v a ∧ Has X n ρ h w b := by
  cases x with | cons h1 h2 => cases h2 with | cons h2 h3 => cases h3; exact ⟨_, _, rfl, h1, h2⟩
theorem len_tup {prog : Program} {w : World} {A : Around} {s : Shared} {E : Value → Shared → Prop} {t : Addr} {items : Array Value} {Q : Value → Shared → Prop} (ht : IsTup s.heap t items) (hfit : (items.size : Int) < 2 ^ 63)
    (h : ∀ tk u, Q (.int items.size u) { s with toks := tk }) : wpAny (model prog w) A (call (.builtin "len") [.ref t]) Q E s :=
  PyProof.Rows.len_tuple ht (by (first | lia | omega)) (h _ _)
theorem valid_len (b : CxB X) : ValidF X k ("len" : Str) lenT := by
  refine ⟨.builtin "len", b ("len", .builtin "len") (by simp [biTable]), Kp.builtin, ?_⟩
  intro vs σ K hT A s ρ vals Q E ar R hall ok er
  unfold lenT at hT
  split at hT
  · obtain ⟨xs, h1, h2, h3⟩ := hT
    obtain ⟨a, rfl, hv⟩ := hall.one_inv
    obtain ⟨_, rfl⟩ := hv.ref_inv
    obtain ⟨_, its, ⟨n, e⟩, ha⟩ := R.list h1
    have hz : xs.length = its.length := ha.length
    refine call_len_list ⟨_, e, rfl, n, rfl⟩ (by rw [List.size_toArray]; (first | lia | omega)) ?_
    have := ok _ _ _ (.int its.length (s.toks + 1)) _ (s.toks + 1 + 1) h3 R (.refl ..) (by rw [hz]; exact .ofInt ..)
    simpa using this
  · obtain ⟨h2, h3⟩ := hT
    obtain ⟨a, rfl, hv⟩ := hall.one_inv
    have r := hv.d_inv
    cases r with
    | @tuple a o vs n xs as e1 e2 e3 e4 =>
      have hl := SeqAt.ReadsAll.length _ _ _ e4
      rw [Array.length_toList] at hl
      refine len_tup ⟨o, e1, e2, n, e3⟩ (by (first | lia | omega)) fun tk u => ?_
      exact ok _ _ _ _ _ tk h3 R (.refl ..) (by rw [hl]; exact .ofInt ..)
  · obtain ⟨h2, h3⟩ := hT
    obtain ⟨a, rfl, hv⟩ := hall.one_inv
    obtain ⟨t, rfl⟩ := hv.str_inv
    exact PySem.P.len_str (by (first | lia | omega)) (ok _ _ _ _ _ _ h3 R (.refl ..) (.ofInt ..))
  · exact hT.elim
noncomputable def kindName : PyData → Option String
  | .none => some "NoneType"
  | .bool _ => some "bool"
  | .int _ => some "int"
  | .str _ => some "str"
  | .tuple _ => some "tuple"
  | _ => none
noncomputable def isiName (k : String) (t : Str) : Option Bool :=
  if t = ("int" : Str) then some (k == "int" || k == "bool")
  else if t = ("bool" : Str) then some (k == "bool")
  else if t = ("str" : Str) then some (k == "str")
  else if t = ("tuple" : Str) then some (k == "tuple")
  else if t = ("list" : Str) then some (k == "list")
  else none
noncomputable def cellIsi (t : Str) : Cell → Option Bool
  | .tab _ _ => none
  | .dct => isiName "dict" t
  | .lst _ => isiName "list" t
  | .rol _ => isiName "list" t
noncomputable def isiW (σ : Store) (v : V) (t : Str) : Option Bool :=
  match v with
  | .d x => (kindName x).bind fun k => isiName k t
  | .ref i => (σ[i]?).bind (cellIsi t)
  | _ => none
noncomputable def isi0T : Contract := fun vs σ K => match vs with
  | [v, .glob t] => ∃ b, isiW σ v t = some b ∧ K (.val (.d (.bool b)) σ)
  | _ => False
inductive KindIs (h : Heap) : String → Value → Prop
  | none : KindIs h "NoneType" .none
  | bool {c : Bool} : KindIs h "bool" (.bool c)
  | int {i : Int} {t : Tok} : KindIs h "int" (.int i t)
  | str {x : Str} {t : Tok} : KindIs h "str" (.str x t)
  | tuple {a : Addr} {o : Obj} : h.get? a = some o → o.cls = .type "tuple" → KindIs h "tuple" (.ref a)
  | list {a : Addr} {o : Obj} : h.get? a = some o → o.cls = .type "list" → KindIs h "list" (.ref a)
  | dict {a : Addr} {o : Obj} : h.get? a = some o → o.cls = .type "dict" → KindIs h "dict" (.ref a)
inductive IsiT : String → Prop
  | int : IsiT "int"
  | bool : IsiT "bool"
  | str : IsiT "str"
  | tuple : IsiT "tuple"
  | list : IsiT "list"
theorem isi_sound {prog : Program} {w : World} {A : Around} {s : Shared} {E : Value → Shared → Prop} {Q : Value → Shared → Prop} {T k : String} {v : Value} (hT : IsiT T) (hk : KindIs s.heap k v)
    (h : ∀ tk, Q (.bool (k == T || (k == "bool" && T == "int"))) { s with toks := tk }) : wpAny (model prog w) A (call (.builtin "isinstance") [v, .type T]) Q E s := by
  cases hk with
  | none => cases hT with
    | int => exact IsiPair.NoneType_int (h _)
    | bool => exact IsiPair.NoneType_bool (h _)
    | str => exact IsiPair.NoneType_str (h _)
    | tuple => exact IsiPair.NoneType_tuple (h _)
    | list => exact IsiPair.NoneType_list (h _)
  | bool => cases hT with
    | int => exact IsiPair.bool_int (h s.toks)
    | bool => exact IsiPair.bool_bool (h s.toks)
    | str => exact IsiPair.bool_str (h _)
    | tuple => exact IsiPair.bool_tuple (h _)
    | list => exact IsiPair.bool_list (h _)
  | int => cases hT with
    | int => exact IsiPair.int_int (h s.toks)
    | bool => exact IsiPair.int_bool (h _)
    | str => exact IsiPair.int_str (h _)
    | tuple => exact IsiPair.int_tuple (h _)
    | list => exact IsiPair.int_list (h _)
  | str => cases hT with
    | int => exact IsiPair.str_int (h _)
    | bool => exact IsiPair.str_bool (h _)
    | str => exact IsiPair.str_str (h s.toks)
    | tuple => exact IsiPair.str_tuple (h _)
    | list => exact IsiPair.str_list (h _)
  | tuple ho hc => cases hT with
    | int => exact IsiPair.tuple_int ho hc (h _)
    | bool => exact IsiPair.tuple_bool ho hc (h _)
    | str => exact IsiPair.tuple_str ho hc (h _)
    | tuple => exact IsiPair.tuple_tuple ho hc (h s.toks)
    | list => exact IsiPair.tuple_list ho hc (h _)
  | list ho hc => cases hT with
    | int => exact IsiPair.list_int ho hc (h _)
    | bool => exact IsiPair.list_bool ho hc (h _)
    | str => exact IsiPair.list_str ho hc (h _)
    | tuple => exact IsiPair.list_tuple ho hc (h _)
    | list => exact IsiPair.list_list ho hc (h s.toks)
  | dict ho hc => cases hT with
    | int => exact IsiPair.dict_int ho hc (h _)
    | bool => exact IsiPair.dict_bool ho hc (h _)
    | str => exact IsiPair.dict_str ho hc (h _)
    | tuple => exact IsiPair.dict_tuple ho hc (h _)
    | list => exact IsiPair.dict_list ho hc (h _)
theorem isi_tail {k T : String} (h : (T == "int") = false) : (k == T) = (k == T || (k == "bool" && T == "int")) := by rw [h, Bool.and_false, Bool.or_false]
theorem isiName_inv {k : String} {t : Str} {b : Bool} (h : isiName k t = some b) : ∃ T, IsiT T ∧ t = Str.ofString T ∧ b = (k == T || (k == "bool" && T == "int")) := by
  unfold isiName at h
  by_cases e : t = ("int" : Str)
  · rw [if_pos e] at h; exact ⟨"int", .int, e, (Option.some.inj h).symm.trans (congrArg (k == "int" || ·) (Bool.and_true _).symm)⟩
  rw [if_neg e] at h
  by_cases e : t = ("bool" : Str)
  · rw [if_pos e] at h; exact ⟨"bool", .bool, e, (Option.some.inj h).symm.trans (isi_tail (by decide))⟩
  rw [if_neg e] at h
  by_cases e : t = ("str" : Str)
  · rw [if_pos e] at h; exact ⟨"str", .str, e, (Option.some.inj h).symm.trans (isi_tail (by decide))⟩
  rw [if_neg e] at h
  by_cases e : t = ("tuple" : Str)
  · rw [if_pos e] at h; exact ⟨"tuple", .tuple, e, (Option.some.inj h).symm.trans (isi_tail (by decide))⟩
  rw [if_neg e] at h
  by_cases e : t = ("list" : Str)
  · rw [if_pos e] at h; exact ⟨"list", .list, e, (Option.some.inj h).symm.trans (isi_tail (by decide))⟩
  rw [if_neg e] at h; cases h
theorem isi_kind {σ : Store} {ρ : Nat → Addr} {h : Heap} {v : V} {a : Value} {t : Str} {r : Bool} (R : Rep X ρ σ h) (hv : Has X σ.length ρ h v a) (h1 : isiW σ v t = some r) : ∃ kn, KindIs h kn a ∧ isiName kn t = some r := by
  cases v with
  | d x =>
    obtain ⟨kn, hk, h1⟩ := Option.bind_eq_some_iff.mp h1
    refine ⟨kn, ?_, h1⟩
    have hr := hv.d_inv
    cases x with
    | none => cases hk; cases hr; exact .none
    | bool x => cases hk; cases hr; exact .bool
    | int x => cases hk; cases hr; exact .int
    | str x => cases hk; cases hr; exact .str
    | tuple x => cases hk; cases hr with | tuple e1 e2 e3 e4 => exact .tuple e1 e2
    | list x => cases hk
    | dict x => cases hk
  | ref i =>
    obtain ⟨c, hi, h1⟩ := Option.bind_eq_some_iff.mp h1
    obtain ⟨_, rfl⟩ := hv.ref_inv
    obtain ⟨oc, its, hp, sh, _⟩ := R.cell _ _ hi
    cases c with
    | tab P q => cases h1
    | dct => exact ⟨"dict", .dict hp sh.1, h1⟩
    | lst xs => obtain ⟨n, rfl⟩ := sh; exact ⟨"list", .list hp rfl, h1⟩
    | rol xs => obtain ⟨n, rfl⟩ := sh; exact ⟨"list", .list hp rfl, h1⟩
  | exc c => cases h1
  | glob c => cases h1
  | rng a b => cases h1
  | zip a b => cases h1
theorem valid_isi (b : CxB X) : ValidF X k ("isinstance" : Str) isi0T := by
  refine ⟨.builtin "isinstance", b ("isinstance", .builtin "isinstance") (by simp [biTable]), Kp.builtin, ?_⟩
  intro vs σ K hT A s ρ vals Q E ar R hall ok er
  unfold isi0T at hT
  split at hT
  · obtain ⟨r, h1, h2⟩ := hT
    obtain ⟨a, c, rfl, hv, hc⟩ := hall.two_inv
    obtain ⟨kn, hk, h1⟩ := isi_kind R hv h1
    obtain ⟨T, hT, rfl, rfl⟩ := isiName_inv h1
    have hc := hc.glob_inv
    have fin := fun tk => ok _ _ _ _ _ tk h2 R (.refl ..) (.ofBool _)
    have ty : c = .type T := by
      cases hT with
      | int => exact Option.some.inj (hc.symm.trans (b ("int", .type "int") (by simp [biTable])))
      | bool => exact Option.some.inj (hc.symm.trans (b ("bool", .type "bool") (by simp [biTable])))
      | str => exact Option.some.inj (hc.symm.trans (b ("str", .type "str") (by simp [biTable])))
      | tuple => exact Option.some.inj (hc.symm.trans (b ("tuple", .type "tuple") (by simp [biTable])))
      | list => exact Option.some.inj (hc.symm.trans (b ("list", .type "list") (by simp [biTable])))
    subst ty
    exact isi_sound hT hk fin
  · exact hT.elim
noncomputable abbrev vInt (i : Int) : V := .d (.int i)
theorem ints_items {n : Nat} {ρ : Nat → Addr} {h : Heap} : ∀ {ns : List Int} {as : List Value}, HasAll X n ρ h (ns.map vInt) as → ∃ xs : List (Int × Tok), as = xs.map (fun p => .int p.1 p.2) ∧ xs.map (·.1) = ns
  | [], _, x => by cases x; exact ⟨[], rfl, rfl⟩
  | i :: ns, _, x => by
    cases x with
    | cons h1 h2 =>
      obtain ⟨t, rfl⟩ := h1.int_inv
      obtain ⟨xs, rfl, e⟩ := ints_items h2
      exact ⟨(i, t) :: xs, rfl, by simp [e]⟩
noncomputable def sumT : Contract := fun vs σ K => match vs with
  | [.ref i] => ∃ ns : List Int, itemsAt σ i = some (ns.map vInt) ∧ K (.val (vInt ns.sum) σ)
  | _ => False
theorem OkE.grown {σ : Store} {ρ : Nat → Addr} {s : Shared} {K : OutE → Prop} {Q : Value → Shared → Prop} (ok : OkE X σ ρ s K Q) (R : Rep X ρ σ s.heap) {v : V} {a : Value} {h' : Heap} {tk : Nat} (hz : s.heap.objs.size ≤ h'.objs.size)
    (hk : ∀ b o, s.heap.get? b = some o → h'.get? b = some o) (hK : K (.val v σ)) (hv : Has X σ.length ρ h' v a) : Q a { s with heap := h', toks := tk } :=
  ok v σ ρ a h' tk hK (R.grow hk) (.ofGrow hz hk) hv
theorem valid_sum (hk100 : 100 ≤ k) (b : CxB X) : ValidF X k ("sum" : Str) sumT := by
  refine ⟨.builtin "sum", b ("sum", .builtin "sum") (by simp [biTable]), Kp.builtin, ?_⟩
  intro vs σ K hT A s ρ vals Q E ar R hall ok er
  unfold sumT at hT
  split at hT
  · obtain ⟨ns, h1, h2⟩ := hT
    obtain ⟨a, rfl, hv⟩ := hall.one_inv
    obtain ⟨_, rfl⟩ := hv.ref_inv
    obtain ⟨_, its, ⟨n, e⟩, ha⟩ := R.list h1
    obtain ⟨xs, rfl, exs⟩ := ints_items ha
    have e1 : (xs.map fun p => Value.int p.1 p.2).toArray = intItems xs.toArray := by simp [intItems]
    refine wpAny_sized (sum_intListG (ar.handled hk100) (xs := xs.toArray) ⟨_, e, rfl, n, by rw [e1]⟩ fun h' tk t' hk hz => ?_)
    refine ok.grown R hz hk h2 ?_
    have : preSum (numAt xs.toArray) xs.toArray.size = ns.sum := by
      rw [preSum_eq, List.take_of_length_le (by simp), ← exs]
    rw [← this]; exact .ofInt ..
  · exact hT.elim
noncomputable def minT : Contract := fun vs σ K => match vs with
  | [.d (.int i), .d (.int j)] => K (.val (vInt (if j < i then j else i)) σ)
  | _ => False
noncomputable def maxT : Contract := fun vs σ K => match vs with
  | [.d (.int i), .d (.int j)] => K (.val (vInt (if i < j then j else i)) σ)
  | _ => False
theorem valid_min (hk100 : 100 ≤ k) (b : CxB X) : ValidF X k ("min" : Str) minT := by
  refine ⟨.builtin "min", b ("min", .builtin "min") (by simp [biTable]), Kp.builtin, ?_⟩
  intro vs σ K hT A s ρ vals Q E ar R hall ok er
  unfold minT at hT
  split at hT
  · rename_i i j
    obtain ⟨a, c, rfl, hv, hc⟩ := hall.two_inv
    obtain ⟨t, rfl⟩ := hv.int_inv; obtain ⟨u, rfl⟩ := hc.int_inv
    refine wpAny_sized (min_two_ints (ar.handled hk100) fun h' tk hk hz => ?_)
    refine ok.grown R hz hk hT ?_
    split <;> exact .ofInt ..
  · exact hT.elim
theorem valid_max (hk100 : 100 ≤ k) (b : CxB X) : ValidF X k ("max" : Str) maxT := by
  refine ⟨.builtin "max", b ("max", .builtin "max") (by simp [biTable]), Kp.builtin, ?_⟩
  intro vs σ K hT A s ρ vals Q E ar R hall ok er
  unfold maxT at hT
  split at hT
  · rename_i i j
    obtain ⟨a, c, rfl, hv, hc⟩ := hall.two_inv
    obtain ⟨t, rfl⟩ := hv.int_inv; obtain ⟨u, rfl⟩ := hc.int_inv
    refine wpAny_sized (max_two_ints (ar.handled hk100) fun h' tk hk hz => ?_)
    refine ok.grown R hz hk hT ?_
    by_cases h : i < j
    · rw [if_pos h, if_pos h]; exact .ofInt ..
    · rw [if_neg h, if_neg h]; exact .ofInt ..
  · exact hT.elim
noncomputable def listT : Contract := fun vs σ K => match vs with
  | [.ref i] => ∃ xs, itemsAt σ i = some xs ∧ xs.length ≤ 1000000 ∧ K (.val (.ref σ.length) (σ ++ [.lst xs]))
  | [.d (.tuple xs)] => xs.length ≤ 1000000 ∧ K (.val (.ref σ.length) (σ ++ [.lst (xs.map V.d)]))
  | _ => False
theorem readsAll_has {n : Nat} {ρ : Nat → Addr} {h : Heap} : ∀ {vs : List Value} {xs : List PyData}, RdsC X.bad h vs xs → HasAll X n ρ h (xs.map V.d) vs
  | _, _, .nil => .nil
  | _, _, .cons h1 h2 => .cons (.d h1) (readsAll_has h2)
theorem valid_list (b : CxB X) : ValidF X k ("list" : Str) listT := by
  refine ⟨.type "list", b ("list", .type "list") (by simp [biTable]), Kp.type, ?_⟩
  intro vs σ K hT A s ρ vals Q E ar R hall ok er
  have main : ∀ (xs : List V) (its : List Value) (it : Addr) (T : String) (o : Obj) (n : Nat), (T = "list" ∨ T = "tuple") → s.heap.get? it = some o → o.cls = .type T → o.data = .seq its.toArray n → HasAll X σ.length ρ s.heap xs its → xs.length ≤ 1000000 →
      K (.val (.ref σ.length) (σ ++ [.lst xs])) → wpAny (model X.prog X.w) A (call (.type "list") [.ref it]) Q E s := by
    intro xs its it T o n hT ho hc hd ha hlen hK
    refine wpAny_sized (call_list_seq it hT ho hc hd (fun h' c' hk hD hz => ?_) (by rw [List.size_toArray, sizeLine_eq, ← ha.length]; (first | lia | omega)))
    have hz : s.heap.objs.size ≤ h'.objs.size := hz
    have hfree : s.heap.get? s.heap.objs.size = none := Heap.get?_none_of_le (Nat.le_refl _)
    obtain ⟨ρ', Ra, hρa, hDa⟩ := (R.grow hk).adopt hD (ha.mono (Nat.le_refl _) (fun _ _ => rfl) fun b o e _ => hk b o e) (fun i hi => Nat.ne_of_lt (R.lt hi)) (by
      cases e : X.B.get? s.heap.objs.size with
      | none => rfl
      | some o => exact absurd (Heap.lt_size (R.base _ _ e)) (Nat.lt_irrefl _))
    have := ok _ _ ρ' (.ref (ρ' σ.length)) h' s.toks hK Ra ⟨hz, fun b o e _ _ => ⟨o.slots, hk b o e, fun _ => rfl⟩, fun b o es n e d => ⟨o, es, n, hk _ _ e, d⟩, by simp, hρa, fun i h1 h2 => by
      have : i = σ.length := by simp at h2; (first | lia | omega)
      subst this; rw [hDa]; exact Nat.le_refl _⟩ (.ref (by simp))
    rw [hDa] at this
    exact this
  unfold listT at hT
  split at hT
  · obtain ⟨xs, h1, h2, h3⟩ := hT
    obtain ⟨a, rfl, hv⟩ := hall.one_inv
    obtain ⟨_, rfl⟩ := hv.ref_inv
    obtain ⟨_, its, ⟨n, e⟩, ha⟩ := R.list h1
    exact main xs its _ "list" _ n (.inl rfl) e rfl rfl ha h2 h3
  · obtain ⟨h2, h3⟩ := hT
    obtain ⟨a, rfl, hv⟩ := hall.one_inv
    have r := hv.d_rdc
    cases r with
    | @tuple a o vs n ys e1 e2 e3 eb e4 =>
      exact main _ vs.toList a "tuple" o n (.inr rfl) e1 e2 (by simpa using e3) (readsAll_has e4) (by simpa using h2) h3
  · exact hT.elim
noncomputable def rangeT : Contract := fun vs σ K => match vs with
  | [.d (.int n)] => (-(2 ^ 62) < n ∧ n < 2 ^ 62) ∧ K (.val (.rng 0 n) σ)
  | [.d (.int a), .d (.int n)] => ((-(2 ^ 62) < a ∧ a < 2 ^ 62) ∧ (-(2 ^ 62) < n ∧ n < 2 ^ 62)) ∧ K (.val (.rng a n) σ)
  | _ => False
theorem small_of {a n : Int} (h1 : -(2 ^ 62) < a ∧ a < 2 ^ 62) (h2 : -(2 ^ 62) < n ∧ n < 2 ^ 62) : Builtin.Range.small a n 1 = true := by
  unfold Builtin.Range.small
  simp only [Builtin.Range.rangeSize, Builtin.Range.rangeFitsLong]
  simp only [show (1 : Int) > 0 by decide, if_true, Int.ediv_one]
  simp only [Bool.and_eq_true, Bool.or_eq_true, decide_eq_true_eq, beq_iff_eq]
  split <;> (try simp only [Int.sub_self]) <;> (first | lia | omega)
theorem valid_range (b : CxB X) : ValidF X k ("range" : Str) rangeT := by
  refine ⟨.type "range", b ("range", .type "range") (by simp [biTable]), Kp.type, ?_⟩
  intro vs σ K hT A s ρ vals Q E ar R hall ok er
  unfold rangeT at hT
  split at hT
  · obtain ⟨h1, h2⟩ := hT
    obtain ⟨a, rfl, hv⟩ := hall.one_inv
    obtain ⟨t, rfl⟩ := hv.int_inv
    refine call_range_1 ?_
    obtain ⟨R', g'⟩ := R.grow1 { cls := .type "range", data := .fields #[.int 0 s.toks, .int _ t, .int 1 (s.toks + 1)] }
    exact ok _ _ _ _ _ _ h2 R' g' (.rng (IsRange.new ..) (small_of (by (first | lia | omega)) h1))
  · obtain ⟨⟨h0, h1⟩, h2⟩ := hT
    obtain ⟨a, c, rfl, hv, hc⟩ := hall.two_inv
    obtain ⟨t, rfl⟩ := hv.int_inv; obtain ⟨u, rfl⟩ := hc.int_inv
    refine call_range_2 ?_
    obtain ⟨R', g'⟩ := R.grow1 { cls := .type "range", data := .fields #[.int _ t, .int _ u, .int 1 s.toks] }
    exact ok _ _ _ _ _ _ h2 R' g' (.rng (IsRange.new ..) (small_of h0 h1))
  · exact hT.elim
noncomputable def appendT : Contract := fun vs σ K => match vs with
  | [.ref i, v] => ∃ xs, σ[i]? = some (.lst xs) ∧ xs.length ≤ 1000000 ∧ K (.val (.d .none) (σ.set i (.lst (xs ++ [v]))))
  | _ => False
theorem valid_append : ValidM X k "list" ("append" : Str) appendT := by
  refine ⟨"list.append", F.plainAttrs_list, slot_list_append, type_list_append, ?_⟩
  intro vs σ K hT A s ρ vals Q E ar R hall ok er
  unfold appendT at hT
  split at hT
  · rename_i i v
    obtain ⟨xs, h1, h2, h3⟩ := hT
    obtain ⟨a, c, rfl, hv, hc⟩ := hall.two_inv
    obtain ⟨_, rfl⟩ := hv.ref_inv
    obtain ⟨_, its, e, ⟨n, rfl⟩, ha⟩ := R.cell _ _ h1
    have ha : HasAll X σ.length ρ s.heap xs its := ha
    refine wpAny_list_append_plain ⟨n, e⟩ (fun h' hp hsb => ?_) (by rw [List.size_toArray, sizeLine_eq, ← ha.length]; (first | lia | omega))
    obtain ⟨n', hp⟩ := hp
    have hp' : h'.get? (ρ i) = some { cls := .type "list", data := .seq (its ++ [c]).toArray n' } := by simpa using hp
    obtain ⟨R', g'⟩ := R.setCell h1 hsb hp' (ha.append (.one hc))
    exact ok _ _ _ _ _ s.toks h3 R' g' .ofNone
  · exact hT.elim
end
end Mine

set_option Elab.async false
set_option autoImplicit false
set_option linter.unusedVariables false
namespace Mine
open PySem PySem.Spec PySem.Calls PyProof.Rows
noncomputable abbrev isiT (fam : List Str) : Contract := isi0T
theorem isi_of {fam : List Str} {σ : Store} {v : V} {t : Str} {b : Bool} {K : OutE → Prop} (h : isiW σ v t = some b) (hK : K (.val (.d (.bool b)) σ)) : isiT fam [v, .glob t] σ K := ⟨b, h, hK⟩
end Mine

set_option Elab.async false
set_option autoImplicit false
set_option linter.unusedVariables false
namespace Mine
open PySem PySem.Spec PySem.Calls PyProof.Rows
theorem cx_of_top {bd : Addr → Prop} {p prog : Program} {w : World} {loose : List Str} {mean : ExcName → Option Value} {mg mb : Str → Option Value} {h : Heap} (T : Top p loose mean mg mb h) : CxOk ⟨prog, w, h, mg, mb, bd⟩ := ⟨T.g, T.b, T.nolimit⟩
theorem boot_table : (biTable.all fun q => (bootBuiltins q.1 == some q.2) && q.1 != ("__name__" : Str)) = true := by decide +kernel
noncomputable def freeB (p : Program) (loose : List Str) (x : Str) : Bool :=
  !startupNames.contains x && !loose.contains x && !((recsOf p).map (·.name)).contains x && !((litsOf p).map (·.1)).contains x && !((clssOf p loose).map (·.name)).contains x
theorem free_of_top {p : Program} {loose : List Str} {mean : ExcName → Option Value} {mg mb : Str → Option Value} {h : Heap} (T : Top p loose mean mg mb h) {x : Str} (hx : freeB p loose x = true) : mg x = none := by
  unfold freeB at hx
  simp only [Bool.and_eq_true, Bool.not_eq_true', List.contains_eq_mem, decide_eq_false_iff_not] at hx
  obtain ⟨⟨⟨⟨h1, h2⟩, h3⟩, h4⟩, h5⟩ := hx
  exact T.free x h1 h2 h3 h4 h5
theorem cxb_of_top {bd : Addr → Prop} {p prog : Program} {w : World} {loose : List Str} {mean : ExcName → Option Value} {mg mb : Str → Option Value} {h : Heap} (T : Top p loose mean mg mb h)
    (hf : (biTable.all fun q => freeB p loose q.1) = true) : CxB ⟨prog, w, h, mg, mb, bd⟩ := by
  intro q hq
  have h1 := List.all_eq_true.mp hf q hq
  have h2 := List.all_eq_true.mp boot_table q hq
  simp only [Bool.and_eq_true, beq_iff_eq, bne_iff_ne, ne_eq] at h2
  show (mg q.1).or (mb q.1) = _
  rw [free_of_top T h1]
  show mb q.1 = _
  rw [T.builtins q.1 h2.2]
  exact h2.1
theorem isFn_of_top {bd : Addr → Prop} {p prog : Program} {w : World} {loose : List Str} {mean : ExcName → Option Value} {mg mb : Str → Option Value} {h : Heap} (T : Top p loose mean mg mb h) {f : Str} {params : Arguments} {body : List Stmt} {scope : Scope} (j : Nat)
    (hr : ((recsOf p)[j]?).map (fun r => (r.name, r.params, r.body, r.scope)) = some (f, params, body, scope)) (h1 : params.posonlyargs = []) (h2 : params.vararg = none) (h3 : params.kwonlyargs = []) (h4 : params.kwarg = none) :
    IsFn ⟨prog, w, h, mg, mb, bd⟩ f (params.args.map (·.arg)) body scope := by
  cases e : (recsOf p)[j]? with
  | none => rw [e] at hr; cases hr
  | some r =>
    rw [e] at hr
    obtain ⟨e1, e2, e3, e4⟩ : r.name = f ∧ r.params = params ∧ r.body = body ∧ r.scope = scope := by
      have := Option.some.inj hr
      simp only [Prod.mk.injEq] at this
      exact this
    obtain ⟨a, o, pm, code, doc, q1, q2, q3, q4⟩ := T.fn _ (List.mem_of_getElem? e)
    rw [e1, e2, e3, e4] at q3
    rw [e1] at q1 q4
    exact ⟨⟨a, o, pm, code, doc, params, q1, q2, q3, q4, h1, rfl, h2, h3, h4⟩⟩
theorem const_of_top {bd : Addr → Prop} {p prog : Program} {w : World} {loose : List Str} {mean : ExcName → Option Value} {mg mb : Str → Option Value} {h : Heap} (T : Top p loose mean mg mb h) {x : Str} {d : PyData} (hv : valOf p x = some d) :
    ∃ v, Cx.val ⟨prog, w, h, mg, mb, bd⟩ x = some v ∧ ∀ h, Reads h v d [] := by
  obtain ⟨v, h1, h2⟩ := T.const x d hv
  exact ⟨v, by show (mg x).or (mb x) = _; rw [h1]; rfl, h2⟩
end Mine

set_option Elab.async false
set_option autoImplicit false
set_option linter.unusedVariables false
namespace Mine
open PySem PySem.Spec PySem.Calls PyProof.Rows
theorem upd_eq {m : Loc} {x : Str} {v : V} : upd m x v x = some v := if_pos rfl
theorem upd_ne {m : Loc} {x y : Str} {v : V} {r : Option V} (h : (y == x) = false) (hr : m y = r) : upd m x v y = r := by
  unfold upd; rw [if_neg (fun e => by rw [e] at h; simp at h)]; exact hr
theorem look_eq {x : Str} {v : V} {xs : List Str} {vs : List V} : (List.lookup x (List.zip (x :: xs) (v :: vs))) = some v := by
  rw [List.zip_cons_cons, List.lookup_cons, beq_self_eq_true]
theorem look_ne {x y : Str} {v : V} {xs : List Str} {vs : List V} {r : Option V} (h : (y == x) = false) (hr : List.lookup y (List.zip xs vs) = r) : (List.lookup y (List.zip (x :: xs) (v :: vs))) = r := by
  rw [List.zip_cons_cons, List.lookup_cons, h]; exact hr
theorem comp_free {names : List (Str × NameKind)} {m : Loc} {y : Str} {r : Option V} (h : (names.lookup y == some .free) = true) (hr : m y = r) : compLoc names m y = r := by
  unfold compLoc; rw [beq_iff_eq.mp h]; exact hr
section
variable {X : Cx} {k : Nat} {env : Env} {sc : Kinds} {m : Loc} {σ : Store} {K : OutE → Prop} {f : Bool → Store → Prop} {p q : Pos}
theorem zqcg {g : V → Store → Prop} {v : V} (h : g v σ) : thenE g (.val v σ) := h
theorem zqbr {g : V → Store → Prop} {v : V} (h : g v σ) : noExn g (.val v σ) := h
theorem zqq {K : OutS → Prop} {J : Loc → Store → Prop} (h : J m σ) : loopS K J (.next m σ) := h
theorem zqbe {K : OutS → Prop} {J : Loc → Store → Prop} {v : V} (h : K (.ret v σ)) : loopS K J (.ret v σ) := h
theorem zqab {K : OutS → Prop} {J : Loc → Store → Prop} (h : J m σ) : loopN K J (.next m σ) := h
theorem zqj {l : Nat} {xs : List V} {f : Nat → Prop} {name : Str} {T : Contract} (h : itemsAt σ l = some xs) (hm : ValidM X k "list" name T) (hf : f l) : ∃ l' ys, V.ref l = .ref l' ∧ itemsAt σ l' = some ys ∧ f l' := ⟨l, xs, rfl, h, hf⟩
theorem zqbt {vs : List V} {P : Prop} (h1 : Nat.ble vs.length 1000000 = true) (h : P) : vs.length ≤ 1000000 ∧ P := ⟨Nat.le_of_ble_eq_true h1, h⟩
theorem zqbx {a b : PyData} (h : K (.val (.d (.tuple [a, b])) σ)) : ∃ ds, [V.d a, V.d b] = ds.map V.d ∧ ds.length ≤ 1000000 ∧ K (.val (.d (.tuple ds)) σ) := ⟨[a, b], rfl, by simp, h⟩
theorem zqca {a b c : PyData} (h : K (.val (.d (.tuple [a, b, c])) σ)) : ∃ ds, [V.d a, V.d b, V.d c] = ds.map V.d ∧ ds.length ≤ 1000000 ∧ K (.val (.d (.tuple ds)) σ) := ⟨[a, b, c], rfl, by simp, h⟩
theorem zqal {i : Int} {g : Int → Prop} (h : g i) : ∃ j, V.d (.int i) = .d (.int j) ∧ g j := ⟨i, rfl, h⟩
theorem zqaz {i j : Int} {g : Bool → Prop} (h : g (decide (i = j))) : cmpW X .Eq (.d (.int i)) (.d (.int j)) σ g := by first | exact zqk rfl rfl rfl rfl h | exact zqn rfl rfl rfl rfl h
theorem zqaa {i j : Int} {g : Bool → Prop} (h : g (!decide (i = j))) : cmpW X .NotEq (.d (.int i)) (.d (.int j)) σ g := by first | exact zqk rfl rfl rfl rfl h | exact zqn rfl rfl rfl rfl h
theorem shaped_str {x : Str} (h : PyData.strOk x = true) : SeqAt.shaped (.str x) = true := by
  unfold SeqAt.shaped
  rw [Bool.and_eq_true]
  exact ⟨by simpa [PyData.canLay0] using h, by simp [PyData.depth]⟩
theorem zqak {i j : Str} {g : Bool → Prop} (h1 : PyData.strOk i = true) (h2 : PyData.strOk j = true) (h : g (i == j)) : cmpW X .Eq (.d (.str i)) (.d (.str j)) σ g := by first | exact zqk rfl rfl (shaped_str h1) (shaped_str h2) h | exact zqn rfl rfl (shaped_str h1) (shaped_str h2) h
theorem zqaj {i j : Str} {g : Bool → Prop} (h1 : PyData.strOk i = true) (h2 : PyData.strOk j = true) (h : g (!(i == j))) : cmpW X .NotEq (.d (.str i)) (.d (.str j)) σ g := by first | exact zqk rfl rfl (shaped_str h1) (shaped_str h2) h | exact zqn rfl rfl (shaped_str h1) (shaped_str h2) h
theorem zqbg {b : Bool} {g : Bool → Prop} (h : g b) : ∃ c, truthW (.d (.bool b)) = some c ∧ g c := ⟨b, rfl, h⟩
theorem zqb {b : Bool} {P Q : Prop} (h1 : b = true → P) (h2 : b = false → Q) : if b then P else Q := by cases b with
  | true => exact h1 rfl
  | false => exact h2 rfl
theorem zqg {b : Bool} {P Q : Prop} (h : b = true) (hp : P) : if b = true then P else Q := by rw [if_pos h]; exact hp
theorem zqd {b : Bool} {P Q : Prop} (h : b = false) (hp : Q) : if b = true then P else Q := by rw [if_neg (by rw [h]; decide)]; exact hp
theorem zqe {b : Bool} {P Q : Prop} (h : b = true) (hp : P) : (b = true → P) ∧ (b = false → Q) := ⟨fun _ => hp, fun q => by rw [h] at q; cases q⟩
theorem zqf {b : Bool} {P Q : Prop} (h : b = false) (hp : Q) : (b = true → P) ∧ (b = false → Q) := ⟨fun q => (by rw [h] at q; cases q), fun _ => hp⟩
end
theorem ValidF.mono {X : Cx} {k k' : Nat} {x : Str} {T : Contract} (hk : k ≤ k') (h : ValidF X k x T) : ValidF X k' x T := by
  obtain ⟨f, h1, h2, h3⟩ := h
  refine ⟨f, h1, h2, fun vs σ K hT A s ρ vals Q E ar => h3 vs σ K hT A s ρ vals Q E ?_⟩
  exact { ar with
    handled := fun q => ar.handled (by (first | lia | omega))
    depth := by have := ar.depth; (first | lia | omega)
    units := by have := ar.units; (first | lia | omega) }
end Mine

set_option Elab.async false
set_option autoImplicit false
set_option linter.unusedVariables false
namespace Mine
open PySem PySem.Spec PySem.Calls PyProof.Rows
section
variable {X : Cx} {k : Nat} {env : Env} {sc : Kinds} {m : Loc} {σ : Store} {p q : Pos} {src : V}
theorem src_ref {l : Nat} {xs : List V} (h : itemsAt σ l = some xs) (k : Nat) : srcNext σ (.ref l) k = some xs[k]? := by
  unfold srcNext; dsimp only; rw [h]; rfl
theorem src_tup {xs : List PyData} (k : Nat) : srcNext σ (.d (.tuple xs)) k = some (xs.map V.d)[k]? := by
  unfold srcNext; dsimp only; rw [List.getElem?_map]
theorem src_rng {n : Nat} (k : Nat) : srcNext σ (.rng 0 n) k = some ((List.range n).map fun (i : Nat) => vInt i)[k]? := by
  unfold srcNext; dsimp only
  rw [List.getElem?_map]
  by_cases h : k < n
  · rw [if_pos (by (first | lia | omega)), List.getElem?_range h]; simp [vInt]
  · rw [if_neg (by (first | lia | omega)), List.getElem?_eq_none (by simp; (first | lia | omega))]; rfl
theorem comp_src {α : Type} {K : OutE → Prop} {names : List (Str × NameKind)} {ifs : List Expr} {elt : Expr} {x : Str} (xs : List α) (enc : α → V) (g : α → Option V) (hs : ∀ k, srcNext σ src k = some (xs.map enc)[k]?) (hlen : xs.length ≤ 1000000)
    (hb : ∀ v ∈ xs, ∀ (env' : Env) (Y : V → Store → Prop) (N : Store → Prop), (∀ w, g v = some w → Y w σ) → (g v = none → N σ) →
      SIfs X k env' (kindsOf names) ifs (upd (compLoc names m) x (enc v)) σ fun b σ => if b then SE X k env' (kindsOf names) (eval elt env') (upd (compLoc names m) x (enc v)) σ (noExn fun w σ => Y w σ) else N σ)
    (hK : K (.val (.ref σ.length) (σ ++ [.lst (xs.filterMap g)]))) :
    ∃ (N : Nat) (I : Nat → List V → Store → Prop), N ≤ 1000000 ∧ I 0 [] σ ∧
          (∀ j acc σ, j < N → I j acc σ → ∃ v, srcNext σ src j = some (some v) ∧ acc.length ≤ j ∧ ∀ env',
            SIfs X k env' (kindsOf names) ifs (upd (compLoc names m) x v) σ fun b σ => if b then SE X k env' (kindsOf names) (eval elt env') (upd (compLoc names m) x v) σ (noExn fun w σ => I (j + 1) (acc ++ [w]) σ) else I (j + 1) acc σ) ∧
          (∀ acc σ, I N acc σ → srcNext σ src N = some none ∧ K (.val (.ref σ.length) (σ ++ [.lst acc]))) := by
  refine ⟨xs.length, fun k acc σ' => σ' = σ ∧ acc = (xs.take k).filterMap g, hlen, ⟨rfl, rfl⟩, ?_, ?_⟩
  · rintro k acc _ hk ⟨rfl, rfl⟩
    refine ⟨enc xs[k], by rw [hs, List.getElem?_map, List.getElem?_eq_getElem hk]; rfl, ?_, fun env' => ?_⟩
    · refine Nat.le_trans (List.length_filterMap_le ..) ?_
      rw [List.length_take]; exact Nat.min_le_left ..
    · have e : (xs.take (k + 1)).filterMap g = (xs.take k).filterMap g ++ (g xs[k]).toList := by
        rw [List.take_succ_eq_append_getElem hk, List.filterMap_append]
        cases h : g xs[k] <;> simp [List.filterMap_cons, h]
      refine hb _ (List.getElem_mem hk) env' (fun w σ'' => σ'' = _ ∧ _ = _) (fun σ'' => σ'' = _ ∧ _ = _) ?_ ?_
      · intro w h; refine ⟨rfl, ?_⟩; rw [e, h]; rfl
      · intro h; refine ⟨rfl, ?_⟩; rw [e, h]; simp
  · rintro acc _ ⟨rfl, rfl⟩
    rw [hs, List.getElem?_eq_none (by simp), List.take_length]
    exact ⟨rfl, hK⟩
theorem for_src {α : Type} {K : OutS → Prop} {body : List Stmt} {x : Str} (xs : List α) (enc : α → V) (I : Nat → Loc → Store → Prop) (h0 : I 0 m σ)
    (hs : ∀ k m σ', I k m σ' → srcNext σ' src k = some (xs.map enc)[k]?)
    (hb : ∀ j (h : j < xs.length) m σ, I j m σ → SS X k env sc (execs body env) (upd m x (enc xs[j])) σ (loopN K (I (j + 1))))
    (hK : ∀ m σ, I xs.length m σ → K (.next m σ)) :
    ∃ (N : Nat) (I : Nat → Loc → Store → Prop), I 0 m σ ∧
          (∀ j m σ, j < N → I j m σ → ∃ v, srcNext σ src j = some (some v) ∧ SS X k env sc (execs body env) (upd m x v) σ (loopN K (I (j + 1)))) ∧
          (∀ m σ, I N m σ → srcNext σ src N = some none ∧ K (.next m σ)) := by
  refine ⟨xs.length, I, h0, ?_, ?_⟩
  · intro k m σ hk hI
    exact ⟨enc xs[k], by rw [hs k m σ hI, List.getElem?_map, List.getElem?_eq_getElem hk]; rfl, hb k hk m σ hI⟩
  · intro m σ hI
    exact ⟨by rw [hs _ m σ hI, List.getElem?_eq_none (by simp)], hK m σ hI⟩
theorem zip_src {α β : Type} {K : OutS → Prop} {body : List Stmt} {a b : Str} {i j : Nat} (xs : List α) (ys : List β) (f : α → V) (g : β → V) (I : Nat → Loc → Store → Prop) (hi : itemsAt σ i = some (xs.map f)) (hj : itemsAt σ j = some (ys.map g)) (h0 : I 0 m σ)
    (hs : ∀ k m σ', I k m σ' → itemsAt σ' i = some (xs.map f) ∧ itemsAt σ' j = some (ys.map g))
    (hb : ∀ l (h1 : l < xs.length) (h2 : l < ys.length) m σ, I l m σ → ∀ bd, SS (X.hide bd) k env sc (execs body env) (upd (upd m a (f xs[l])) b (g ys[l])) σ (loopN K (I (l + 1))))
    (hK : ∀ m σ, I (min xs.length ys.length) m σ → K (.next m σ)) :
    ∃ i' j' xs' ys', [V.ref i, V.ref j] = [.ref i', .ref j'] ∧ itemsAt σ i' = some xs' ∧ itemsAt σ j' = some ys' ∧ ∃ (I : Nat → Loc → Store → Prop), I 0 m σ ∧
            (∀ l m σ, l < min xs'.length ys'.length → I l m σ → ∃ x y, xs'[l]? = some x ∧ ys'[l]? = some y ∧ itemsAt σ i' = some xs' ∧ itemsAt σ j' = some ys' ∧ ∀ bd, SS (X.hide bd) k env sc (execs body env) (upd (upd m a x) b y) σ (loopN K (I (l + 1)))) ∧
            (∀ m σ, I (min xs'.length ys'.length) m σ → (itemsAt σ i' = some xs' ∧ itemsAt σ j' = some ys') ∧ K (.next m σ)) := by
  refine ⟨i, j, xs.map f, ys.map g, rfl, hi, hj, I, h0, fun l m σ hl hI => ?_, fun m σ hI => ?_⟩
  · rw [List.length_map, List.length_map] at hl
    have h1 : l < xs.length := Nat.lt_of_lt_of_le hl (Nat.min_le_left ..)
    have h2 : l < ys.length := Nat.lt_of_lt_of_le hl (Nat.min_le_right ..)
    exact ⟨f xs[l], g ys[l], by rw [List.getElem?_map, List.getElem?_eq_getElem h1]; rfl, by rw [List.getElem?_map, List.getElem?_eq_getElem h2]; rfl, (hs l m σ hI).1, (hs l m σ hI).2, hb l h1 h2 m σ hI⟩
  · rw [List.length_map, List.length_map] at hI
    exact ⟨hs _ m σ hI, hK m σ hI⟩
theorem while_src {t : Expr} {body : List Stmt} {K : OutS → Prop} (I : Nat → Loc → Store → Prop) (N : Nat) (h0 : I N m σ)
    (hb : ∀ N m σ, I N m σ → SV X k env sc t m σ (fun _ => False) fun c σ => (c = true → SS X k env sc (execs body env) m σ (loopN K fun m σ => ∃ N', N' < N ∧ I N' m σ)) ∧ (c = false → K (.next m σ))) :
    SS X k env sc (exec (.While t body [] p) env) m σ K := zqbz I ⟨N, h0⟩ hb
end
theorem filterMap_if {α β : Type} (P : α → Bool) (f : α → β) : ∀ l : List α, l.filterMap (fun a => if P a then some (f a) else none) = (l.filter P).map f
  | [] => rfl
  | a :: r => by
    rw [List.filterMap_cons, List.filter_cons]
    cases h : P a
    · simp only [Bool.false_eq_true, if_false]; exact filterMap_if P f r
    · simp only [if_true, List.map_cons]; rw [filterMap_if P f r]
theorem filterMap_some {α β : Type} (f : α → β) (l : List α) : l.filterMap (fun a => some (f a)) = l.map f := by
  induction l with
  | nil => rfl
  | cons a r ih => rw [List.filterMap_cons]; simp only; rw [ih]; rfl
section
variable {σ : Store}
theorem itemsAt_new {xs : List V} : itemsAt (σ ++ [.lst xs]) σ.length = some xs := by
  unfold itemsAt; simp [Cell.list?]
theorem set_new {c d : Cell} : (σ ++ [c]).set σ.length d = σ ++ [d] := by simp
theorem get_new {c : Cell} : (σ ++ [c])[σ.length]? = some c := by simp
noncomputable def Grown (σ τ : Store) : Prop := ∃ r, τ = σ ++ r
theorem Grown.refl : Grown σ σ := ⟨[], by simp⟩
theorem Grown.snoc {τ : Store} {c : Cell} (h : Grown σ τ) : Grown σ (τ ++ [c]) := by
  obtain ⟨r, rfl⟩ := h
  exact ⟨r ++ [c], by simp⟩
theorem ret_data {K : OutE → Prop} {d : PyData} {τ : Store} (g : Grown σ τ) (h : K (.val (.d d) σ)) : retK σ K (.ret (.d d) τ) := by
  obtain ⟨r, rfl⟩ := g
  exact ⟨_, _, _, .pure, h⟩
theorem ret_none {K : OutE → Prop} {τ : Store} {m : Loc} (g : Grown σ τ) (h : K (.val (.d .none) σ)) : retK σ K (.next m τ) := by
  obtain ⟨r, rfl⟩ := g
  exact ⟨_, _, _, .pure, h⟩
theorem ret_list {K : OutE → Prop} {xs : List V} {τ : Store} {j : Nat} (g : Grown σ τ) (hj : σ.length ≤ j) (hx : τ[j]? = some (.lst xs)) (hf : ∀ v ∈ xs, ∃ x, v = .d x) (h : K (.val (.ref σ.length) (σ ++ [.lst xs]))) : retK σ K (.ret (.ref j) τ) := by
  obtain ⟨r, rfl⟩ := g
  obtain ⟨i, rfl⟩ := Nat.exists_eq_add_of_le hj
  rw [List.getElem?_append_right (by (first | lia | omega)), Nat.add_sub_cancel_left] at hx
  exact ⟨_, _, _, .newList hx hf, h⟩
theorem Grown.trans {τ υ : Store} (h : Grown σ τ) (g : Grown τ υ) : Grown σ υ := by
  obtain ⟨r, rfl⟩ := h
  obtain ⟨t, rfl⟩ := g
  exact ⟨r ++ t, by simp⟩
theorem Grown.items {τ : Store} {i : Nat} {xs : List V} (h : Grown σ τ) (e : itemsAt σ i = some xs) : itemsAt τ i = some xs := by
  obtain ⟨r, rfl⟩ := h
  unfold itemsAt at e ⊢
  cases q : σ[i]? with
  | none => rw [q] at e; cases e
  | some a =>
    rw [List.getElem?_append_left (List.getElem?_eq_some_iff.mp q).1, q]; rw [q] at e; exact e
theorem upd_self {m : Loc} {x : Str} {v : V} (h : m x = some v) : upd m x v = m := by
  funext y
  unfold upd
  split
  · rename_i e; rw [e, h]
  · rfl
section
variable {X : Cx} {k : Nat} {env : Env} {sc : Kinds} {b : List Stmt} {m : Loc} {K : OutS → Prop} {R : Loc → Store → Prop}
theorem if_joinI {c : Bool} (x : Str) {a v₁ : Int} (hm : m x = some (.d (.int a))) (h1 : c = true → ∀ R : Loc → Store → Prop, R (upd m x (.d (.int v₁))) σ → SS X k env sc (execs b env) m σ (loopS K R)) (hR : R (upd m x (.d (.int (if c then v₁ else a)))) σ) :
    (c = true → SS X k env sc (execs b env) m σ (loopS K R)) ∧ (c = false → SS X k env sc (execs [] env) m σ (loopS K R)) := by
  cases c with
  | true => exact ⟨fun h => h1 h R hR, fun h => by cases h⟩
  | false =>
    refine ⟨fun h => (by cases h), fun _ => ?_⟩
    refine zql (show R m σ from ?_)
    rw [if_neg (by decide), upd_self hm] at hR
    exact hR
theorem if_joinS {c : Bool} (x : Str) {a v₁ : Str} (hm : m x = some (.d (.str a))) (h1 : c = true → ∀ R : Loc → Store → Prop, R (upd m x (.d (.str v₁))) σ → SS X k env sc (execs b env) m σ (loopS K R)) (hR : R (upd m x (.d (.str (if c then v₁ else a)))) σ) :
    (c = true → SS X k env sc (execs b env) m σ (loopS K R)) ∧ (c = false → SS X k env sc (execs [] env) m σ (loopS K R)) := by
  cases c with
  | true => exact ⟨fun h => h1 h R hR, fun h => by cases h⟩
  | false =>
    refine ⟨fun h => (by cases h), fun _ => ?_⟩
    refine zql (show R m σ from ?_)
    rw [if_neg (by decide), upd_self hm] at hR
    exact hR
theorem if_joinG {c : Bool} (x : Str) {a v₁ : Int} (hm : m x = some (.d (.int a))) (h1 : c = true → ∀ R : Loc → Store → Prop, (∀ τ, Grown σ τ → R (upd m x (.d (.int v₁))) τ) → SS X k env sc (execs b env) m σ (loopS K R)) (hR : ∀ τ, Grown σ τ → R (upd m x (.d (.int (if c then v₁ else a)))) τ) :
    (c = true → SS X k env sc (execs b env) m σ (loopS K R)) ∧ (c = false → SS X k env sc (execs [] env) m σ (loopS K R)) := by
  cases c with
  | true => exact ⟨fun h => h1 h R hR, fun h => by cases h⟩
  | false =>
    refine ⟨fun h => (by cases h), fun _ => ?_⟩
    refine zql (show R m σ from ?_)
    have := hR σ .refl
    rw [if_neg (by decide), upd_self hm] at this
    exact this
end
theorem slice_nat {α : Type} (xs : List α) (a b : Nat) : sliceV xs (some (a : Int)) (some ((a + b : Nat) : Int)) = (xs.drop a).take b := by
  have clip : ∀ c : Nat, clipAt xs.length (c : Int) = min c xs.length := fun c => by
    have e : max 0 (min (c : Int) xs.length) = ((min c xs.length : Nat) : Int) := by
      rcases Nat.le_total c xs.length with h | h
      · rw [Nat.min_eq_left h, Int.min_eq_left (Int.ofNat_le.mpr h), Int.max_eq_right (Int.natCast_nonneg c)]
      · rw [Nat.min_eq_right h, Int.min_eq_right (Int.ofNat_le.mpr h), Int.max_eq_right (Int.natCast_nonneg _)]
    unfold clipAt
    rw [if_neg (Int.not_lt.mpr (Int.natCast_nonneg c)), e, Int.toNat_natCast]
  show (xs.drop (clipAt xs.length (a : Int))).take (clipAt xs.length ((a + b : Nat) : Int) - clipAt xs.length (a : Int)) = _
  rw [clip, clip]
  rcases Nat.le_total a xs.length with h | h
  · rw [Nat.min_eq_left h]
    rcases Nat.le_total (a + b) xs.length with h2 | h2
    · rw [Nat.min_eq_left h2, Nat.add_sub_cancel_left]
    · rw [Nat.min_eq_right h2, List.take_of_length_le (Nat.le_of_eq List.length_drop), List.take_of_length_le (by rw [List.length_drop]; exact Nat.sub_le_iff_le_add'.mpr h2)]
  · rw [Nat.min_eq_right h, Nat.min_eq_right (Nat.le_trans h (Nat.le_add_right a b)), Nat.sub_self, List.take_zero, List.drop_of_length_le h, List.take_nil]
theorem dataOf_data {i n : Nat} {ds : List PyData} (h : itemsAt σ i = some (ds.map V.d)) : dataOf σ (n + 1) (.ref i) = some (.list ds) := by
  unfold dataOf
  rw [h]
  show ((ds.map V.d).mapM (dataOf σ n)).map _ = _
  have : (ds.map V.d).mapM (dataOf σ n) = some ds := by
    clear h
    induction ds with
    | nil => rfl
    | cons d r ih =>
      rw [List.map_cons, List.mapM_cons, ih]
      unfold dataOf
      rfl
  rw [this]; rfl
end
end Mine

set_option Elab.async false
set_option autoImplicit false
set_option linter.unusedVariables false
namespace Mine
open PySem PySem.Spec PySem.Calls PyProof.Rows PySem.W
theorem has_of_well {X : Cx} {P : Params} {n : Nat} {ρ : Nat → Addr} {h : Heap} : ∀ {ns : List Int} {vs : List Value}, WellAll P h vs (ns.map WData.int) → HasAll X n ρ h (ns.map vInt) vs
  | [], _, w => by cases w; exact .nil
  | i :: r, _, w => by
    cases w with
    | cons h1 h2 =>
      cases h1
      exact .cons (.ofInt ..) (has_of_well h2)
theorem ofPys_ints : ∀ ns : List Int, ofPys (ns.map PyData.int) = ns.map WData.int
  | [] => by simp [ofPys]
  | i :: r => by simp [ofPys, ofPy, ofPys_ints r]
end Mine

set_option Elab.async false
set_option autoImplicit false
set_option linter.unusedVariables false
namespace Mine
open PySem PySem.Spec PySem.Calls PyProof.Rows
structure Wish where
  buy : Bool
  lim : Int
  amt : Int
noncomputable def Wish.side (w : Wish) : Str := if w.buy then ("buy" : Str) else ("sell" : Str)
noncomputable def Wish.v (w : Wish) : V := .d (.tuple [.str w.side, .int w.lim, .int w.amt])
theorem side_ok (w : Wish) : PyData.strOk w.side = true := by
  unfold Wish.side
  split <;> decide +kernel
theorem buy_beq (w : Wish) : (w.side == ("buy" : Str)) = w.buy := by
  obtain ⟨b, l, a⟩ := w
  cases b
  · exact (by decide +kernel : (("sell" : Str) == ("buy" : Str)) = false)
  · exact (by decide +kernel : (("buy" : Str) == ("buy" : Str)) = true)
theorem sell_beq (w : Wish) : (w.side == ("sell" : Str)) = !w.buy := by
  obtain ⟨b, l, a⟩ := w
  cases b
  · exact (by decide +kernel : (("sell" : Str) == ("sell" : Str)) = true)
  · exact (by decide +kernel : (("buy" : Str) == ("sell" : Str)) = false)
noncomputable def wantedF (ws : List Wish) (price : Int) : Int := ((ws.filter fun w => w.buy && decide (price ≤ w.lim)).map Wish.amt).sum
noncomputable def wantedT : Contract := fun vs σ K => ∃ i ws price, vs = [.ref i, .d (.int price)] ∧ itemsAt σ i = some (ws.map Wish.v) ∧ ws.length ≤ 1000000 ∧ K (.val (.d (.int (wantedF ws price))) σ)
noncomputable def offeredF (ws : List Wish) (price : Int) : Int := ((ws.filter fun w => !w.buy && decide (w.lim ≤ price)).map Wish.amt).sum
noncomputable def offeredT : Contract := fun vs σ K => ∃ i ws price, vs = [.ref i, .d (.int price)] ∧ itemsAt σ i = some (ws.map Wish.v) ∧ ws.length ≤ 1000000 ∧ K (.val (.d (.int (offeredF ws price))) σ)
theorem map_amt (ws : List Wish) : ws.map (fun w => vInt w.amt) = (ws.map Wish.amt).map vInt := by simp
noncomputable def cellAt (ns : List Int) (k : Nat) : Int := ns.getD k 0
noncomputable def cell_atT : Contract := fun vs σ K => ∃ i ns, ∃ k : Nat, vs = [.ref i, .d (.int (k : Int))] ∧ itemsAt σ i = some (ns.map vInt) ∧ ns.length ≤ 1000000 ∧ K (.val (.d (.int (cellAt ns k))) σ)
theorem getD_vInt {ns : List Int} {k : Nat} (h : k < ns.length) : (ns.map vInt)[((k : Int)).toNat]? = some (.d (.int (ns.getD k 0))) := by
  rw [Int.toNat_natCast, List.getElem?_map, List.getElem?_eq_getElem h, List.getD_eq_getElem?_getD, List.getElem?_eq_getElem h]; rfl
theorem isi_int {σ : Store} {i : Int} {t : Str} {b : Bool} (h : isiName "int" t = some b) : isiW σ (.d (.int i)) t = some b := h
noncomputable def wholeT : Contract := fun vs σ K => ∃ i, vs = [.d (.int i)] ∧ K (.val (.d (.bool true)) σ)
noncomputable def farF (c : Int) : Int := c * 48271 % 2147483647
noncomputable def limF (c : Int) : Int := if decide (farF c % 7 = 2) then [0, 1, 999999999, 1000000000].getD (farF c / 7 % 4).toNat 0 else if decide (farF c % 7 = 1) then c * 69621 % 2147483629 % 1000000001 else 20 + farF c / 7 % 9
noncomputable def amtF (c : Int) : Int := if decide (farF c / 63 % 10 = 2) then 1000000 else if decide (farF c / 63 % 5 = 1) then 1 + c * 40692 % 2147483399 % 1000000 else 1 + farF c / 63 % 6
noncomputable def wishF (c : Int) : Wish := ⟨!decide (c % 2 = 1), limF c, amtF c⟩
theorem wishF_v (c : Int) : .d (.tuple [.str (if decide (c % 2 = 1) then ("sell" : Str) else ("buy" : Str)), .int (limF c), .int (amtF c)]) = (wishF c).v := by
  unfold Wish.v wishF Wish.side
  dsimp only
  cases decide (c % 2 = 1) <;> rfl
noncomputable def wish_byT : Contract := fun vs σ K => ∃ c, vs = [.d (.int c)] ∧ K (.val (wishF c).v σ)
theorem pick_int (L : List Int) {k : Int} (h : 0 ≤ k ∧ k < L.length) : (L.map vInt)[k.toNat]? = some (.d (.int (L.getD k.toNat 0))) := by
  obtain ⟨n, rfl⟩ := Int.eq_ofNat_of_zero_le h.1
  exact getD_vInt (by (first | lia | omega))
noncomputable def extraF (ns : List Int) : List Wish := if cellAt ns 0 % 8 = 5 then (List.range (20 + cellAt ns 1 % 30).toNat).map fun k => wishF (cellAt ns 1 + 8191 * (k : Nat)) else []
noncomputable def manyF (ns : List Int) (few : Nat) : Nat := if 63 < ns.length then 150 else few
noncomputable def wishesF (ns : List Int) (first few : Nat) : List Wish := ((ns.drop first).take (manyF ns few)).map wishF ++ extraF ns
noncomputable def wishes_byT : Contract := fun vs σ K => ∃ i ns, ∃ first few : Nat, vs = [.ref i, .d (.int (first : Int)), .d (.int (few : Int))] ∧ itemsAt σ i = some (ns.map vInt) ∧ ns.length ≤ 900000 ∧ K (.val (.ref σ.length) (σ ++ [.lst ((wishesF ns first few).map Wish.v)]))
theorem v_data {ws : List Wish} : ∀ v ∈ ws.map Wish.v, ∃ x, v = .d x := by
  intro v hv
  obtain ⟨w, _, rfl⟩ := List.mem_map.mp hv
  exact ⟨_, rfl⟩
theorem eqv_ints : ∀ a b : List Int, PyData.eqvAll (a.map .int) (b.map .int) = decide (a = b)
  | [], [] => by simp [PyData.eqvAll]
  | [], _ :: _ => by simp [PyData.eqvAll]
  | _ :: _, [] => by simp [PyData.eqvAll]
  | x :: a, y :: b => by
    simp only [List.map_cons, PyData.eqvAll, eqv_ints a b, PyData.eqv, List.cons.injEq, Bool.decide_and]
    rfl
noncomputable def Wish.d (w : Wish) : PyData := .tuple [.str w.side, .int w.lim, .int w.amt]
theorem Wish.eqv_refl (w : Wish) : PyData.eqv w.d w.d = true := by simp [Wish.d, PyData.eqv, PyData.eqvAll]
theorem eqv_wishes : ∀ ws : List Wish, PyData.eqvAll (ws.map Wish.d) (ws.map Wish.d) = true
  | [] => by simp [PyData.eqvAll]
  | w :: r => by simp only [List.map_cons, PyData.eqvAll, Wish.eqv_refl, eqv_wishes r, Bool.and_self]
theorem map_v (ws : List Wish) : ws.map Wish.v = (ws.map Wish.d).map V.d := by rw [List.map_map]; rfl
theorem canLay_all (l : List PyData) (h : ∀ d ∈ l, PyData.canLay0 d = true) : PyData.canLayAll0 l = true := by
  induction l with
  | nil => simp [PyData.canLayAll0]
  | cons d r ih => simp only [PyData.canLayAll0, h d List.mem_cons_self, ih fun x hx => h x (List.mem_cons_of_mem _ hx), Bool.and_self]
theorem depth_all (n : Nat) (l : List PyData) (h : ∀ d ∈ l, d.depth ≤ n) : PyData.depthAll l ≤ n := by
  induction l with
  | nil => simp [PyData.depthAll]
  | cons d r ih => 
    simp only [PyData.depthAll]
    exact Nat.max_le.mpr ⟨h d List.mem_cons_self, ih fun x hx => h x (List.mem_cons_of_mem _ hx)⟩
theorem shaped_list (l : List PyData) (h1 : ∀ d ∈ l, PyData.canLay0 d = true) (h2 : ∀ d ∈ l, d.depth ≤ 40) : SeqAt.shaped (.list l) = true := by
  unfold SeqAt.shaped
  rw [Bool.and_eq_true, decide_eq_true_eq]
  refine ⟨by simpa [PyData.canLay0] using canLay_all l h1, ?_⟩
  have := depth_all 40 l h2
  simp only [PyData.depth]
  (first | lia | omega)
theorem shaped_ints (a : List Int) : SeqAt.shaped (.list (a.map .int)) = true := by
  refine shaped_list _ (fun d hd => ?_) (fun d hd => ?_)
  all_goals (obtain ⟨i, _, rfl⟩ := List.mem_map.mp hd)
  · rfl
  · simp [PyData.depth]
theorem shaped_wishes (ws : List Wish) : SeqAt.shaped (.list (ws.map Wish.d)) = true := by
  refine shaped_list _ (fun d hd => ?_) (fun d hd => ?_)
  all_goals (obtain ⟨w, _, rfl⟩ := List.mem_map.mp hd)
  · simp [Wish.d, PyData.canLay0, PyData.canLayAll0, side_ok]
  · simp [Wish.d, PyData.depth, PyData.depthAll]
noncomputable def enoughF (ws : List Wish) (p : Int) : Bool := decide (wantedF ws (p + 1) ≤ offeredF ws p)
noncomputable def soldF (ws : List Wish) (p : Int) : Bool := decide (offeredF ws (p - 1) ≤ wantedF ws p)
noncomputable def onPrice (F : List Wish → Int → Bool) : Contract := fun vs σ K => ∃ i ws price, vs = [.ref i, .d (.int price)] ∧ itemsAt σ i = some (ws.map Wish.v) ∧ ws.length ≤ 1000000 ∧ K (.val (.d (.bool (F ws price))) σ)
noncomputable def is_enoughT : Contract := onPrice enoughF
noncomputable def is_soldT : Contract := onPrice soldF
noncomputable def price_byT : Contract := fun vs σ K => ∃ (i : Nat) (ws : List Wish) (cell other : Int), vs = [.ref i, .d (.int cell), .d (.int other)] ∧ itemsAt σ i = some (ws.map Wish.v) ∧ ws.length ≤ 1000000 ∧ ∀ p : Int, 0 ≤ p ∧ p ≤ 1000000000 → K (.val (.d (.int p)) σ)
noncomputable def Wish.ok (w : Wish) : Prop := 0 ≤ w.lim ∧ w.lim ≤ 1000000000 ∧ 1 ≤ w.amt ∧ w.amt ≤ 1000000
theorem wishF_ok (c : Int) : (wishF c).ok := by
  have h4 : ∀ k : Int, 0 ≤ k ∧ k < 4 → 0 ≤ ([0, 1, 999999999, 1000000000] : List Int).getD k.toNat 0 ∧ ([0, 1, 999999999, 1000000000] : List Int).getD k.toNat 0 ≤ 1000000000 := by
    intro k hk
    have : k = 0 ∨ k = 1 ∨ k = 2 ∨ k = 3 := by (first | lia | omega)
    rcases this with rfl | rfl | rfl | rfl <;> decide
  have hl : 0 ≤ limF c ∧ limF c ≤ 1000000000 := by
    unfold limF
    split
    · exact h4 _ (by (first | lia | omega))
    · split <;> (first | lia | omega)
  have ha : 1 ≤ amtF c ∧ amtF c ≤ 1000000 := by
    unfold amtF
    split
    · (first | lia | omega)
    · split <;> (first | lia | omega)
  exact ⟨hl.1, hl.2, ha.1, ha.2⟩
theorem extraF_ok {ns : List Int} : ∀ w ∈ extraF ns, w.ok := by
  intro w hw
  unfold extraF at hw
  split at hw
  · obtain ⟨k, _, rfl⟩ := List.mem_map.mp hw; exact wishF_ok _
  · cases hw
theorem wishesF_ok {ns : List Int} {first few : Nat} : ∀ w ∈ wishesF ns first few, w.ok := by
  intro w hw
  unfold wishesF at hw
  rcases List.mem_append.mp hw with hw | hw
  · obtain ⟨c, _, rfl⟩ := List.mem_map.mp hw; exact wishF_ok _
  · exact extraF_ok w hw
theorem sum_filter_le {P Q : Wish → Bool} : ∀ {ws : List Wish}, (∀ w ∈ ws, w.ok) → (∀ w ∈ ws, P w = true → Q w = true) → ((ws.filter P).map Wish.amt).sum ≤ ((ws.filter Q).map Wish.amt).sum
  | [], _, _ => by simp
  | w :: r, ho, h => by
    have ih := sum_filter_le (fun x hx => ho x (List.mem_cons_of_mem _ hx)) fun x hx => h x (List.mem_cons_of_mem _ hx)
    have h0 := (ho w List.mem_cons_self).2.2.1
    have hw := h w List.mem_cons_self
    rw [List.filter_cons, List.filter_cons]
    cases hp : P w with
    | true =>
      rw [hw hp]; simp only [if_true, List.map_cons, List.sum_cons]; (first | lia | omega)
    | false =>
      cases hq : Q w <;> simp only [Bool.false_eq_true, if_false, if_true, List.map_cons, List.sum_cons] <;> (first | lia | omega)
theorem wantedF_anti {ws : List Wish} (ho : ∀ w ∈ ws, w.ok) {p q : Int} (h : p ≤ q) : wantedF ws q ≤ wantedF ws p := by
  refine sum_filter_le ho fun w _ hw => ?_
  simp only [Bool.and_eq_true, decide_eq_true_eq] at hw ⊢
  exact ⟨hw.1, by (first | lia | omega)⟩
theorem offeredF_mono {ws : List Wish} (ho : ∀ w ∈ ws, w.ok) {p q : Int} (h : p ≤ q) : offeredF ws p ≤ offeredF ws q := by
  refine sum_filter_le ho fun w _ hw => ?_
  simp only [Bool.and_eq_true, decide_eq_true_eq] at hw ⊢
  exact ⟨hw.1, by (first | lia | omega)⟩
theorem wantedF_over {ws : List Wish} (ho : ∀ w ∈ ws, w.ok) {p : Int} (h : 1000000000 < p) : wantedF ws p = 0 := by
  unfold wantedF
  rw [List.filter_eq_nil_iff.mpr]
  · rfl
  · intro w hw hb
    simp only [Bool.and_eq_true, decide_eq_true_eq] at hb
    have := (ho w hw).2.1
    (first | lia | omega)
theorem offeredF_under {ws : List Wish} (ho : ∀ w ∈ ws, w.ok) {p : Int} (h : p < 0) : offeredF ws p = 0 := by
  unfold offeredF
  rw [List.filter_eq_nil_iff.mpr]
  · rfl
  · intro w hw hb
    simp only [Bool.and_eq_true, decide_eq_true_eq] at hb
    have := (ho w hw).1
    (first | lia | omega)
theorem wantedF_nonneg {ws : List Wish} (ho : ∀ w ∈ ws, w.ok) (p : Int) : 0 ≤ wantedF ws p := by
  by_cases h : 1000000000 < p
  · rw [wantedF_over ho h]; (first | lia | omega)
  · have := wantedF_anti ho (p := p) (q := 1000000001) (by (first | lia | omega))
    rw [wantedF_over ho (by (first | lia | omega))] at this; exact this
theorem offeredF_nonneg {ws : List Wish} (ho : ∀ w ∈ ws, w.ok) (p : Int) : 0 ≤ offeredF ws p := by
  by_cases h : p < 0
  · rw [offeredF_under ho h]; (first | lia | omega)
  · have := offeredF_mono ho (p := -1) (q := p) (by (first | lia | omega))
    rw [offeredF_under ho (by (first | lia | omega))] at this; exact this
theorem enoughF_mono {ws : List Wish} (ho : ∀ w ∈ ws, w.ok) {p q : Int} (h : p ≤ q) (he : enoughF ws p = true) : enoughF ws q = true := by
  have := of_decide_eq_true he
  have h1 := wantedF_anti ho (p := p + 1) (q := q + 1) (by (first | lia | omega))
  have h2 := offeredF_mono ho h
  exact decide_eq_true (by (first | lia | omega))
theorem soldF_anti {ws : List Wish} (ho : ∀ w ∈ ws, w.ok) {p q : Int} (h : p ≤ q) (he : soldF ws q = true) : soldF ws p = true := by
  have := of_decide_eq_true he
  have h1 := wantedF_anti ho h
  have h2 := offeredF_mono ho (p := p - 1) (q := q - 1) (by (first | lia | omega))
  exact decide_eq_true (by (first | lia | omega))
theorem enoughF_top {ws : List Wish} (ho : ∀ w ∈ ws, w.ok) : enoughF ws 1000000000 = true := by
  have := wantedF_over ho (p := 1000000000 + 1) (by (first | lia | omega))
  have := offeredF_nonneg ho 1000000000
  exact decide_eq_true (by (first | lia | omega))
theorem soldF_zero {ws : List Wish} (ho : ∀ w ∈ ws, w.ok) : soldF ws 0 = true := by
  have := offeredF_under ho (p := 0 - 1) (by (first | lia | omega))
  have := wantedF_nonneg ho 0
  exact decide_eq_true (by (first | lia | omega))
noncomputable def lowestT : Contract := fun vs σ K => ∃ (i : Nat) (ws : List Wish), vs = [.ref i] ∧ itemsAt σ i = some (ws.map Wish.v) ∧ ws.length ≤ 1000000 ∧ (∀ w ∈ ws, w.ok) ∧
  ∀ l : Int, 0 ≤ l → l ≤ 1000000000 → (∀ q, 0 ≤ q → q < l → enoughF ws q = false) → (∀ q, l ≤ q → enoughF ws q = true) → K (.val (.d (.int l)) σ)
noncomputable def highestT : Contract := fun vs σ K => ∃ (i : Nat) (ws : List Wish), vs = [.ref i] ∧ itemsAt σ i = some (ws.map Wish.v) ∧ ws.length ≤ 1000000 ∧ (∀ w ∈ ws, w.ok) ∧
  ∀ l : Int, 0 ≤ l → l ≤ 1000000000 → (∀ q, l < q → q ≤ 1000000000 → soldF ws q = false) → (∀ q, q ≤ l → soldF ws q = true) → K (.val (.d (.int l)) σ)
theorem low_le_high {ws : List Wish} {l h : Int} (h0 : 0 ≤ h) (l1 : l ≤ 1000000000) (hl : ∀ q, 0 ≤ q → q < l → enoughF ws q = false) (hh : ∀ q, h < q → q ≤ 1000000000 → soldF ws q = false) : l ≤ h := by
  by_cases q : l ≤ h
  · exact q
  · have h1 := of_decide_eq_false (hl h h0 (by (first | lia | omega)))
    have h2 := of_decide_eq_false (hh (h + 1) (by (first | lia | omega)) (by (first | lia | omega)))
    rw [show h + 1 - 1 = h by (first | lia | omega)] at h2
    (first | lia | omega)
end Mine

set_option Elab.async false
set_option autoImplicit false
set_option linter.unusedVariables false
namespace Mine
open PySem PySem.Spec PySem.Calls PyProof.Rows
noncomputable def numW (σ : Store) (v : V) : Option Bool := (isiW σ v ("int" : Str)).bind fun b => (isiW σ v ("bool" : Str)).map fun c => b && !c
theorem numW_inv {σ : Store} {v : V} {r : Bool} (h : numW σ v = some r) : ∃ b c, isiW σ v ("int" : Str) = some b ∧ isiW σ v ("bool" : Str) = some c ∧ r = (b && !c) := by
  obtain ⟨b, h1, h2⟩ := Option.bind_eq_some_iff.mp h
  obtain ⟨c, h3, h4⟩ := Option.map_eq_some_iff.mp h2
  exact ⟨b, c, h1, h3, h4.symm⟩
theorem numW_of {σ : Store} {v : V} {b c : Bool} (h1 : isiW σ v ("int" : Str) = some b) (h2 : isiW σ v ("bool" : Str) = some c) : numW σ v = some (b && !c) := by
  unfold numW; rw [h1, h2]; rfl
theorem num_kind {σ : Store} {x : PyData} {k : String} {b c : Bool} (hk : kindName x = some k) (h1 : isiName k ("int" : Str) = some b) (h2 : isiName k ("bool" : Str) = some c) : numW σ (.d x) = some (b && !c) :=
  numW_of (by show (kindName x).bind _ = _; rw [hk]; exact h1) (by show (kindName x).bind _ = _; rw [hk]; exact h2)
theorem num_int {σ : Store} {i : Int} : numW σ (.d (.int i)) = some true := num_kind (k := "int") (b := true) (c := false) rfl (by decide +kernel) (by decide +kernel)
theorem isi_cell {σ : Store} {i : Nat} {c : Cell} {t : Str} {b : Bool} (h : σ[i]? = some c) (hb : cellIsi t c = some b) : isiW σ (.ref i) t = some b := by
  show (σ[i]?).bind _ = _; rw [h]; exact hb
noncomputable def numT : Contract := fun vs σ K => ∃ v r, vs = [v] ∧ numW σ v = some r ∧ K (.val (.d (.bool r)) σ)
noncomputable def need_priceT : Contract := fun vs σ K => ∃ v, vs = [v] ∧ ∃ p : Int, v = .d (.int p) ∧ 0 ≤ p ∧ p ≤ 1000000000 ∧ K (.val (.d .none) σ)
noncomputable def pbyT : Contract := fun vs σ K => ∃ (i : Nat) (ws : List Wish) (v : V), vs = [.ref i, v] ∧ itemsAt σ i = some (ws.map Wish.v) ∧ ws.length ≤ 1000000 ∧ (∀ w ∈ ws, w.ok) ∧
  (∃ p : Int, v = .d (.int p) ∧ 0 ≤ p ∧ p ≤ 1000000000 ∧
    ∀ l h : Int, (0 ≤ l ∧ l ≤ h ∧ h ≤ 1000000000) → (∀ q, 0 ≤ q → q < l → enoughF ws q = false) → (∀ q, l ≤ q → enoughF ws q = true) → (∀ q, h < q → q ≤ 1000000000 → soldF ws q = false) → (∀ q, q ≤ h → soldF ws q = true) →
      K (.val (.d (.int (if h < (if p < l then l else p) then h else (if p < l then l else p)))) σ))
end Mine

set_option Elab.async false
set_option autoImplicit false
set_option linter.unusedVariables false
namespace Mine
open PySem PySem.Spec PySem.Calls PyProof.Rows
theorem isi_d {σ : Store} {x : PyData} {k : String} {t : Str} {b : Bool} (hk : kindName x = some k) (h : isiName k t = some b) : isiW σ (.d x) t = some b := by
  show (kindName x).bind _ = _; rw [hk]; exact h
theorem isi_tup {σ : Store} {x : List PyData} : isiW σ (.d (.tuple x)) ("tuple" : Str) = some true := isi_d (k := "tuple") rfl (by decide +kernel)
end Mine

set_option Elab.async false
set_option autoImplicit false
set_option linter.unusedVariables false
namespace Mine
open PySem PySem.Spec PySem.Calls PyProof.Rows
noncomputable def fitsF (ws : List Wish) (ps : List Int) : Prop := ps.length = ws.length ∧ ∀ (k : Nat) (w : Wish) (n : Int), ws[k]? = some w → ps[k]? = some n → 0 ≤ n ∧ n ≤ w.amt
noncomputable def need_piecesT : Contract := fun vs σ K => ∃ i ws j xs, vs = [.ref i, .ref j] ∧ itemsAt σ i = some (ws.map Wish.v) ∧ ws.length ≤ 1000000 ∧ itemsAt σ j = some xs ∧ xs.length ≤ 1000000 ∧
  ((∃ ps, xs = ps.map vInt ∧ fitsF ws ps ∧ K (.val (.d .none) σ)))
theorem isi_items {σ : Store} {j : Nat} {xs : List V} {t : Str} {b : Bool} (h : itemsAt σ j = some xs) (hb : isiName "list" t = some b) : isiW σ (.ref j) t = some b := by
  unfold itemsAt at h
  obtain ⟨c, hc, e⟩ := Option.bind_eq_some_iff.mp h
  cases c with
  | dct => cases e
  | tab P q => cases e
  | lst ys => exact isi_cell hc hb
  | rol ys => exact isi_cell hc hb
theorem isi_list {σ : Store} {j : Nat} {xs : List V} (h : itemsAt σ j = some xs) : isiW σ (.ref j) ("list" : Str) = some true := isi_items h (by decide +kernel)
noncomputable def pieces_byT : Contract := fun vs σ K => ∃ (i : Nat) (ws : List Wish) (cell : Int), vs = [.ref i, .d (.int cell)] ∧ itemsAt σ i = some (ws.map Wish.v) ∧ ws.length ≤ 1000000 ∧ (∀ w ∈ ws, w.ok) ∧
  ∀ ps : List Int, fitsF ws ps → K (.val (.ref σ.length) (σ ++ [.lst (ps.map vInt)]))
noncomputable def payF (w : Wish) (n : Int) : Int := if w.buy then w.lim * n else - (w.lim * n)
noncomputable def worthF (ws : List Wish) (ps : List Int) (k : Nat) : Int := (((ws.zip ps).take k).map fun q => payF q.1 q.2).sum
theorem worthF_succ {ws : List Wish} {ps : List Int} {k : Nat} (h1 : k < ws.length) (h2 : k < ps.length) : worthF ws ps (k + 1) = worthF ws ps k + payF ws[k] ps[k] := by
  unfold worthF
  have hk : k < (ws.zip ps).length := by rw [List.length_zip]; (first | lia | omega)
  rw [List.take_succ_eq_append_getElem hk, List.map_append, List.sum_append]
  simp
noncomputable def worthT : Contract := fun vs σ K => ∃ i ws j xs, vs = [.ref i, .ref j] ∧ itemsAt σ i = some (ws.map Wish.v) ∧ ws.length ≤ 1000000 ∧ (∀ w ∈ ws, w.ok) ∧ itemsAt σ j = some xs ∧ xs.length ≤ 1000000 ∧
  ((∃ ps, xs = ps.map vInt ∧ fitsF ws ps ∧ K (.val (.d (.int (worthF ws ps ws.length))) σ)))
end Mine

set_option Elab.async false
set_option autoImplicit false
set_option linter.unusedVariables false
namespace Mine
open PySem PySem.Spec PySem.Calls PyProof.Rows
noncomputable def Lx (key : Nat → Int) (i j : Nat) : Prop := key i < key j ∨ (key i = key j ∧ i < j)
theorem sum_perm {l l' : List Int} (h : l.Perm l') : l.sum = l'.sum := by
  induction h with
  | nil => rfl
  | cons x _ ih => simp [ih]
  | swap x y l => simp only [List.sum_cons]; (first | lia | omega)
  | trans _ _ h1 h2 => exact h1.trans h2
noncomputable def serve (amt : Nat → Int) : Int → List Nat → List Int → List Int
  | _, [], f => f
  | D, k :: r, f => serve amt (D - min D (amt k)) r (f.set k (min D (amt k)))
theorem serve_len {amt : Nat → Int} : ∀ {D : Int} {r : List Nat} {f : List Int}, (serve amt D r f).length = f.length
  | _, [], _ => rfl
  | _, _ :: _, _ => by unfold serve; rw [serve_len]; simp
theorem serve_out {amt : Nat → Int} {k : Nat} : ∀ {D : Int} {r : List Nat} {f : List Int}, k ∉ r → (serve amt D r f)[k]? = f[k]?
  | _, [], _, _ => rfl
  | _, j :: r, f, h => by
    unfold serve
    rw [serve_out fun q => h (List.mem_cons_of_mem _ q), List.getElem?_set_ne fun q => h (by rw [q]; exact List.mem_cons_self)]
theorem sum_pos {amt : Nat → Int} : ∀ l : List Nat, (∀ i ∈ l, 0 ≤ amt i) → 0 ≤ (l.map amt).sum
  | [], _ => Int.le_refl _
  | a :: l, h => by
    rw [List.map_cons, List.sum_cons]
    exact Int.add_nonneg (h a List.mem_cons_self) (sum_pos l fun i hi => h i (List.mem_cons_of_mem _ hi))
theorem clip_two {a x D P : Int} (hx : 0 ≤ x) (hP : 0 ≤ P) : max 0 (min a (D - min D x - P)) = max 0 (min a (D - (x + P))) := by
  rcases Int.le_total D x with h | h
  · have e1 : D - D - P ≤ 0 := by rw [Int.sub_self, Int.zero_sub]; exact Int.neg_nonpos_of_nonneg hP
    have e2 : D - (x + P) ≤ 0 := Int.sub_nonpos_of_le (Int.le_trans h (Int.le_add_of_nonneg_right hP))
    rw [Int.min_eq_left h, Int.max_eq_left (Int.le_trans (Int.min_le_right _ _) e1), Int.max_eq_left (Int.le_trans (Int.min_le_right _ _) e2)]
  · rw [Int.min_eq_right h, Int.sub_sub]
theorem min_max_step {x a R : Int} (ha : 0 ≤ a) (hR : 0 ≤ R) : max 0 (min a x) + min (max 0 (x - a)) R = min (max 0 x) (a + R) := by
  rcases Int.le_total x 0 with h | h
  · rw [Int.min_eq_right (Int.le_trans h ha), Int.max_eq_left h, Int.max_eq_left (Int.sub_nonpos_of_le (Int.le_trans h ha)), Int.min_eq_left hR, Int.min_eq_left (Int.add_nonneg ha hR), Int.zero_add]
  · rw [Int.max_eq_right h]
    rcases Int.le_total x a with h2 | h2
    · rw [Int.min_eq_right h2, Int.max_eq_right h, Int.max_eq_left (Int.sub_nonpos_of_le h2), Int.min_eq_left hR, Int.add_zero, Int.min_eq_left (Int.le_trans h2 (Int.le_add_of_nonneg_right hR))]
    · rw [Int.min_eq_left h2, Int.max_eq_right ha, Int.max_eq_right (Int.sub_nonneg_of_le h2)]
      rcases Int.le_total (x - a) R with h3 | h3
      · rw [Int.min_eq_left h3, Int.min_eq_left (Int.le_add_of_sub_left_le h3)]
        rw [Int.add_comm, Int.sub_add_cancel]
      · rw [Int.min_eq_right h3, Int.min_eq_right (Int.add_le_of_le_sub_left h3)]
theorem serve_in {amt : Nat → Int} {k : Nat} : ∀ {r pre post : List Nat} {D : Int} {f : List Int}, r = pre ++ k :: post → r.Nodup → (∀ j ∈ r, 0 ≤ amt j) → 0 ≤ D → k < f.length →
    (serve amt D r f)[k]? = some (max 0 (min (amt k) (D - (pre.map amt).sum)))
  | _, [], post, D, f, rfl, hn, ha, hD, hk => by
    rw [List.nil_append] at hn ha ⊢
    unfold serve
    have := ha k List.mem_cons_self
    rw [serve_out (List.nodup_cons.mp hn).1, List.getElem?_set_self hk]
    simp only [List.map_nil, List.sum_nil]
    rw [Int.sub_zero, Int.min_comm (amt k) D, Int.max_eq_right (Int.le_min.mpr ⟨hD, this⟩)]
  | _, j :: pre, post, D, f, rfl, hn, ha, hD, hk => by
    rw [List.cons_append] at hn ha ⊢
    unfold serve
    have hj := ha j List.mem_cons_self
    rw [serve_in (pre := pre) (post := post) rfl (List.nodup_cons.mp hn).2 (fun i hi => ha i (List.mem_cons_of_mem _ hi)) (by (first | lia | omega)) (by simpa using hk)]
    have hpre : 0 ≤ (pre.map amt).sum := sum_pos pre fun i hi => ha i (List.mem_cons_of_mem _ (List.mem_append_left _ hi))
    simp only [List.map_cons, List.sum_cons]
    congr 1
    exact clip_two hj hpre
noncomputable def wAt (ws : List Wish) (k : Nat) : Wish := ws.getD k ⟨true, 0, 0⟩
theorem wAt_eq {ws : List Wish} {k : Nat} (h : k < ws.length) : wAt ws k = ws[k] := by
  unfold wAt; rw [List.getD_eq_getElem?_getD, List.getElem?_eq_getElem h]; rfl
noncomputable def eligF (price : Int) (w : Wish) : Bool := if w.buy then decide (price ≤ w.lim) else decide (w.lim ≤ price)
noncomputable def aheadB (ws : List Wish) (k j : Nat) : Bool := ((wAt ws j).buy == (wAt ws k).buy) && ((if (wAt ws k).buy then decide ((wAt ws k).lim < (wAt ws j).lim) else decide ((wAt ws j).lim < (wAt ws k).lim)) || (decide ((wAt ws j).lim = (wAt ws k).lim) && decide (j < k)))
noncomputable def aheadF (ws : List Wish) (k n : Nat) : Int := (((List.range n).filter (aheadB ws k)).map fun j => (wAt ws j).amt).sum
noncomputable def dealtF (ws : List Wish) (price : Int) : Int := min (wantedF ws price) (offeredF ws price)
noncomputable def dueF (ws : List Wish) (price : Int) (k : Nat) : Int := if eligF price (wAt ws k) then max 0 (min (wAt ws k).amt (dealtF ws price - aheadF ws k ws.length)) else 0
noncomputable def piecesF (ws : List Wish) (price : Int) : List Int := (List.range ws.length).map (dueF ws price)
noncomputable def someF (ws : List Wish) (price : Int) (b : Bool) : List Nat := (List.range ws.length).filter fun k => ((wAt ws k).buy == b) && eligF price (wAt ws k)
noncomputable def keyF (ws : List Wish) (b : Bool) (k : Nat) : Int := if b then - (wAt ws k).lim else (wAt ws k).lim
structure Ranks (ws : List Wish) (price : Int) (b : Bool) (r : List Nat) : Prop where
  perm : r.Perm (someF ws price b)
  sorted : r.Pairwise (Lx (keyF ws b))
theorem lx_asymm {key : Nat → Int} {i j : Nat} (h : Lx key i j) (h' : Lx key j i) : False := by
  unfold Lx at h h'; (first | lia | omega)
section
variable {ws : List Wish} {price : Int} {b : Bool} {r : List Nat}
theorem mem_some {k : Nat} : k ∈ someF ws price b ↔ k < ws.length ∧ (wAt ws k).buy = b ∧ eligF price (wAt ws k) = true := by
  unfold someF
  rw [List.mem_filter, List.mem_range, Bool.and_eq_true, beq_iff_eq]
theorem Ranks.nodup (h : Ranks ws price b r) : r.Nodup := (h.perm.nodup_iff).mpr (List.Pairwise.filter _ List.nodup_range)
theorem Ranks.ahead (h : Ranks ws price b r) {pre post : List Nat} {k : Nat} (e : r = pre ++ k :: post) : pre.Perm ((List.range ws.length).filter (aheadB ws k)) := by
  have hn := h.nodup
  have hs := h.sorted
  have hk := mem_some.mp (h.perm.mem_iff.mp (show k ∈ r by rw [e]; simp))
  rw [e] at hn hs
  refine (List.perm_ext_iff_of_nodup (List.nodup_append.mp hn).1 (List.Pairwise.filter _ List.nodup_range)).mpr fun j => ?_
  rw [List.mem_filter, List.mem_range]
  have hlx : ∀ j, j < ws.length → ((wAt ws j).buy = b ∧ Lx (keyF ws b) j k ↔ aheadB ws k j = true) := fun j _ => by
    unfold aheadB Lx keyF
    rw [Bool.and_eq_true, Bool.or_eq_true, Bool.and_eq_true, beq_iff_eq, decide_eq_true_eq, decide_eq_true_eq, hk.2.1]
    refine and_congr Iff.rfl ?_
    cases b <;> simp only [Bool.false_eq_true, if_false, if_true, decide_eq_true_eq] <;> (first | lia | omega)
  constructor
  · intro hj
    have hjr := mem_some.mp (h.perm.mem_iff.mp (show j ∈ r by rw [e]; exact List.mem_append_left _ hj))
    exact ⟨hjr.1, (hlx j hjr.1).mp ⟨hjr.2.1, (List.pairwise_append.mp hs).2.2 j hj k List.mem_cons_self⟩⟩
  · rintro ⟨hj, ha⟩
    obtain ⟨hb, hl⟩ := (hlx j hj).mpr ha
    have he : eligF price (wAt ws j) = true := by
      have := hk.2.2
      unfold eligF at this ⊢
      unfold Lx keyF at hl
      rw [hk.2.1] at this
      rw [hb]
      cases b <;> simp only [Bool.false_eq_true, if_false, if_true, decide_eq_true_eq] at this hl ⊢ <;> (first | lia | omega)
    have hjr : j ∈ r := h.perm.mem_iff.mpr (mem_some.mpr ⟨hj, hb, he⟩)
    rw [e] at hjr
    rcases List.mem_append.mp hjr with q | q
    · exact q
    · rcases List.mem_cons.mp q with q | q
      · subst q; unfold Lx at hl; (first | lia | omega)
      · exact (lx_asymm hl ((List.pairwise_cons.mp (List.pairwise_append.mp hs).2.1).1 j q)).elim
theorem serve_rank (h : Ranks ws price b r) (ho : ∀ w ∈ ws, w.ok) {f : List Int} (hf : f.length = ws.length) {D : Int} (hD : 0 ≤ D) (k : Nat) (hk : k < ws.length) :
    (serve (fun j => (wAt ws j).amt) D r f)[k]? = if ((wAt ws k).buy == b) && eligF price (wAt ws k) then some (max 0 (min (wAt ws k).amt (D - aheadF ws k ws.length))) else f[k]? := by
  by_cases c : (((wAt ws k).buy == b) && eligF price (wAt ws k)) = true
  · rw [if_pos c]
    rw [Bool.and_eq_true, beq_iff_eq] at c
    have hkr : k ∈ r := h.perm.mem_iff.mpr (mem_some.mpr ⟨hk, c⟩)
    obtain ⟨pre, post, e⟩ := List.append_of_mem hkr
    have hpos : ∀ j ∈ r, 0 ≤ (wAt ws j).amt := fun j hj => by
      have hj' := (mem_some.mp (h.perm.mem_iff.mp hj)).1
      rw [wAt_eq hj']
      have := (ho _ (List.getElem_mem hj')).2.2.1
      (first | lia | omega)
    rw [serve_in e h.nodup hpos hD (by rw [hf]; exact hk)]
    unfold aheadF
    rw [sum_perm ((h.ahead e).map _)]
  · rw [if_neg c]
    refine serve_out fun q => c ?_
    have := mem_some.mp (h.perm.mem_iff.mp q)
    rw [Bool.and_eq_true, beq_iff_eq]
    exact this.2
theorem serve_due {r1 r2 : List Nat} (h1 : Ranks ws price true r1) (h2 : Ranks ws price false r2) (ho : ∀ w ∈ ws, w.ok) (hD : 0 ≤ dealtF ws price) :
    serve (fun j => (wAt ws j).amt) (dealtF ws price) r2 (serve (fun j => (wAt ws j).amt) (dealtF ws price) r1 (List.replicate ws.length 0)) = piecesF ws price := by
  apply List.ext_getElem?
  intro k
  by_cases hk : k < ws.length
  · rw [serve_rank h2 ho (by rw [serve_len]; simp) hD k hk, serve_rank h1 ho (by simp) hD k hk]
    unfold piecesF
    rw [List.getElem?_map, List.getElem?_range hk, List.getElem?_replicate, if_pos hk]
    simp only [Option.map_some, dueF]
    cases (wAt ws k).buy <;> cases eligF price (wAt ws k) <;> simp
  · rw [List.getElem?_eq_none (by rw [serve_len, serve_len]; simp; (first | lia | omega)), List.getElem?_eq_none (by unfold piecesF; simp; (first | lia | omega))]
end
theorem map_wAt (ws : List Wish) : (List.range ws.length).map (wAt ws) = ws := by
  apply List.ext_getElem?
  intro k
  by_cases h : k < ws.length
  · rw [List.getElem?_map, List.getElem?_range h, List.getElem?_eq_getElem h, Option.map_some, wAt_eq h]
  · rw [List.getElem?_eq_none (by simp; (first | lia | omega)), List.getElem?_eq_none (by (first | lia | omega))]
theorem sum_places (ws : List Wish) (P : Wish → Bool) : ((ws.filter P).map Wish.amt).sum = (((List.range ws.length).filter fun k => P (wAt ws k)).map fun k => (wAt ws k).amt).sum := by
  conv => lhs; rw [← map_wAt ws]
  rw [List.filter_map, List.map_map]
  rfl
theorem sum_some {α : Type} (f : α → Int) (P Q : α → Bool) : ∀ l : List α, (∀ a ∈ l, 0 ≤ f a) → (∀ a ∈ l, P a = true → Q a = true) → ((l.filter P).map f).sum ≤ ((l.filter Q).map f).sum
  | [], _, _ => by simp
  | a :: l, h0, h => by
    have ih := sum_some f P Q l (fun x hx => h0 x (List.mem_cons_of_mem _ hx)) fun x hx => h x (List.mem_cons_of_mem _ hx)
    have ha := h0 a List.mem_cons_self
    have hw := h a List.mem_cons_self
    rw [List.filter_cons, List.filter_cons]
    cases hp : P a with
    | true => rw [hw hp]; simp only [if_true, List.map_cons, List.sum_cons]; (first | lia | omega)
    | false => cases hq : Q a <;> simp only [Bool.false_eq_true, if_false, if_true, List.map_cons, List.sum_cons] <;> (first | lia | omega)
theorem sum_with {f : Nat → Int} {P : Nat → Bool} {k : Nat} : ∀ l : List Nat, l.Nodup → k ∈ l → P k = false → ((l.filter fun j => P j || j == k).map f).sum = ((l.filter P).map f).sum + f k
  | [], _, h, _ => by cases h
  | a :: l, hn, h, hp => by
    have hn' := List.nodup_cons.mp hn
    rw [List.filter_cons, List.filter_cons]
    by_cases e : a = k
    · subst e
      have : (l.filter fun j => P j || j == a) = l.filter P := List.filter_congr fun x hx => by
        have : (x == a) = false := beq_eq_false_iff_ne.mpr fun q => hn'.1 (by rw [← q]; exact hx)
        rw [this, Bool.or_false]
      rw [this, hp]
      simp only [beq_self_eq_true, Bool.or_true, if_true, Bool.false_eq_true, if_false, List.map_cons, List.sum_cons]
      (first | lia | omega)
    · have hk : k ∈ l := (List.mem_cons.mp h).resolve_left fun q => e q.symm
      have ih := sum_with (f := f) (P := P) l hn'.2 hk hp
      have : (a == k) = false := beq_eq_false_iff_ne.mpr e
      rw [this, Bool.or_false]
      cases P a <;> simp only [if_true, Bool.false_eq_true, if_false, List.map_cons, List.sum_cons, ih]
      (first | lia | omega)
section
variable {ws : List Wish} {p : Int}
theorem amt_pos (ho : ∀ w ∈ ws, w.ok) {k : Nat} (hk : k < ws.length) : 1 ≤ (wAt ws k).amt := by
  rw [wAt_eq hk]; exact (ho _ (List.getElem_mem hk)).2.2.1
theorem due_fits (ho : ∀ w ∈ ws, w.ok) {k : Nat} (hk : k < ws.length) : 0 ≤ dueF ws p k ∧ dueF ws p k ≤ (wAt ws k).amt := by
  have := amt_pos ho hk
  unfold dueF
  split <;> (first | lia | omega)
theorem due_none {k : Nat} (h : eligF p (wAt ws k) = false) : dueF ws p k = 0 := by unfold dueF; rw [h]; rfl
theorem ahead_self (k : Nat) : aheadB ws k k = false := by
  unfold aheadB
  cases (wAt ws k).buy <;> simp
theorem due_all (ho : ∀ w ∈ ws, w.ok) (he : enoughF ws p = true) (hs : soldF ws p = true) {k : Nat} (hk : k < ws.length) (h : if (wAt ws k).buy then p < (wAt ws k).lim else (wAt ws k).lim < p) : dueF ws p k = (wAt ws k).amt := by
  have he := of_decide_eq_true he
  have hs := of_decide_eq_true hs
  have hp := amt_pos ho hk
  have hsum := sum_with (f := fun j => (wAt ws j).amt) (P := aheadB ws k) (List.range ws.length) List.nodup_range (List.mem_range.mpr hk) (ahead_self k)
  have hpos : ∀ j ∈ List.range ws.length, 0 ≤ (wAt ws j).amt := fun j hj => by have := amt_pos ho (List.mem_range.mp hj); (first | lia | omega)
  have hle : aheadF ws k ws.length + (wAt ws k).amt ≤ dealtF ws p := by
    unfold aheadF
    rw [← hsum]
    cases hb : (wAt ws k).buy with
    | true =>
      rw [hb, if_pos rfl] at h
      have h1 : ((List.filter (fun j => aheadB ws k j || j == k) (List.range ws.length)).map fun j => (wAt ws j).amt).sum ≤ wantedF ws (p + 1) := by
        unfold wantedF
        rw [sum_places]
        refine sum_some _ _ _ _ hpos fun j _ hj => ?_
        rw [Bool.or_eq_true, beq_iff_eq] at hj
        rw [Bool.and_eq_true, decide_eq_true_eq]
        rcases hj with hj | rfl
        · unfold aheadB at hj
          simp only [hb, Bool.and_eq_true, Bool.or_eq_true, beq_iff_eq, if_true, decide_eq_true_eq] at hj
          exact ⟨hj.1, by (first | lia | omega)⟩
        · exact ⟨hb, by (first | lia | omega)⟩
      have h2 := wantedF_anti ho (p := p) (q := p + 1) (by (first | lia | omega))
      unfold dealtF
      (first | lia | omega)
    | false =>
      rw [hb, if_neg Bool.false_ne_true] at h
      have h1 : ((List.filter (fun j => aheadB ws k j || j == k) (List.range ws.length)).map fun j => (wAt ws j).amt).sum ≤ offeredF ws (p - 1) := by
        unfold offeredF
        rw [sum_places]
        refine sum_some _ _ _ _ hpos fun j _ hj => ?_
        rw [Bool.or_eq_true, beq_iff_eq] at hj
        rw [Bool.and_eq_true, decide_eq_true_eq, Bool.not_eq_true']
        rcases hj with hj | rfl
        · unfold aheadB at hj
          simp only [hb, Bool.and_eq_true, Bool.or_eq_true, beq_iff_eq, Bool.false_eq_true, if_false, decide_eq_true_eq] at hj
          exact ⟨hj.1, by (first | lia | omega)⟩
        · exact ⟨hb, by (first | lia | omega)⟩
      have h2 := offeredF_mono ho (p := p - 1) (q := p) (by (first | lia | omega))
      unfold dealtF
      (first | lia | omega)
  have hel : eligF p (wAt ws k) = true := by
    unfold eligF
    split at h <;> rename_i hb <;> simp only [hb, if_true, Bool.false_eq_true, if_false, decide_eq_true_eq] <;> (first | lia | omega)
  unfold dueF
  rw [hel, if_pos rfl]
  (first | lia | omega)
noncomputable def sideF (ws : List Wish) (ps : List Int) (b : Bool) : Int := (((List.range ws.length).filter fun k => (wAt ws k).buy == b).map fun k => ps.getD k 0).sum
theorem rank_ex (ws : List Wish) (p : Int) (b : Bool) : ∃ r, Ranks ws p b r := by
  let le : Nat → Nat → Bool := fun i j => decide (keyF ws b i < keyF ws b j) || (decide (keyF ws b i = keyF ws b j) && decide (i ≤ j))
  have hle : ∀ i j, le i j = true ↔ (keyF ws b i < keyF ws b j ∨ (keyF ws b i = keyF ws b j ∧ i ≤ j)) := fun i j => by
    show (_ || (_ && _)) = true ↔ _
    rw [Bool.or_eq_true, Bool.and_eq_true, decide_eq_true_eq, decide_eq_true_eq, decide_eq_true_eq]
  have hperm := List.mergeSort_perm (someF ws p b) le
  have hs := List.pairwise_mergeSort (le := le) (fun a b c h1 h2 => by rw [hle] at h1 h2 ⊢; (first | lia | omega)) (fun a b => by rw [Bool.or_eq_true, hle, hle]; (first | lia | omega)) (someF ws p b)
  have hn : ((someF ws p b).mergeSort le).Nodup := hperm.nodup_iff.mpr (List.Pairwise.filter _ List.nodup_range)
  refine ⟨_, hperm, ?_⟩
  refine (List.Pairwise.and hs hn).imp fun {i j} h => ?_
  have h1 := (hle i j).mp h.1
  have h2 := h.2
  unfold Lx
  (first | lia | omega)
theorem serve_sum {amt : Nat → Int} : ∀ (r pre : List Nat) (D : Int), (∀ j ∈ r, 0 ≤ amt j) → 0 ≤ (pre.map amt).sum → 0 ≤ D → ∀ g : Nat → Int, (∀ l k m, r = l ++ k :: m → g k = max 0 (min (amt k) (D - (pre.map amt).sum - (l.map amt).sum))) →
    (r.map g).sum = min (max 0 (D - (pre.map amt).sum)) ((r.map amt).sum)
  | [], pre, D, _, _, hD, g, hg => by simp only [List.map_nil, List.sum_nil]; (first | lia | omega)
  | k :: r, pre, D, ha, hp, hD, g, hg => by
    have h0 := hg [] k r rfl
    have hk := ha k List.mem_cons_self
    have hsum : ((pre ++ [k]).map amt).sum = (pre.map amt).sum + amt k := by simp
    have ih := serve_sum r (pre ++ [k]) D (fun j hj => ha j (List.mem_cons_of_mem _ hj)) (by (first | lia | omega)) hD g fun l j m e => by
      have := hg (k :: l) j m (by rw [e]; rfl)
      rw [this, hsum]
      simp only [List.map_cons, List.sum_cons]
      congr 2
      (first | lia | omega)
    have hr : 0 ≤ (r.map amt).sum := sum_pos r fun i hi => ha i (List.mem_cons_of_mem _ hi)
    simp only [List.map_cons, List.sum_cons, List.map_nil, List.sum_nil] at h0 ⊢
    rw [ih, h0, hsum, Int.sub_zero, ← Int.sub_sub]
    exact min_max_step hk hr
theorem sum_zero {α : Type} (f : α → Int) (P Q : α → Bool) : ∀ l : List α, (∀ a ∈ l, P a = true → Q a = false → f a = 0) → (∀ a ∈ l, Q a = true → P a = true) → ((l.filter P).map f).sum = ((l.filter Q).map f).sum
  | [], _, _ => rfl
  | a :: l, h, h' => by
    have ih := sum_zero f P Q l (fun x hx => h x (List.mem_cons_of_mem _ hx)) fun x hx => h' x (List.mem_cons_of_mem _ hx)
    have h1 := h a List.mem_cons_self
    have h2 := h' a List.mem_cons_self
    rw [List.filter_cons, List.filter_cons]
    cases hp : P a <;> cases hq : Q a <;> simp only [if_true, Bool.false_eq_true, if_false, List.map_cons, List.sum_cons, ih]
    · have := h2 hq; rw [hp] at this; exact absurd this Bool.false_ne_true
    · rw [h1 hp hq]; (first | lia | omega)
theorem side_dealt (ho : ∀ w ∈ ws, w.ok) (hD : 0 ≤ dealtF ws p) (b : Bool) : sideF ws (piecesF ws p) b = dealtF ws p := by
  obtain ⟨r, hr⟩ := rank_ex ws p b
  have hget : ∀ k, k < ws.length → (piecesF ws p).getD k 0 = dueF ws p k := fun k hk => by
    unfold piecesF
    rw [List.getD_eq_getElem?_getD, List.getElem?_map, List.getElem?_range hk]; rfl
  have e1 : sideF ws (piecesF ws p) b = ((someF ws p b).map (dueF ws p)).sum := by
    unfold sideF someF
    rw [List.map_congr_left (g := dueF ws p) fun k hk => hget k (List.mem_range.mp (List.mem_filter.mp hk).1)]
    refine sum_zero _ _ _ _ (fun k _ h1 h2 => due_none ?_) fun k _ h => (Bool.and_eq_true _ _ ▸ h).1
    rw [h1, Bool.true_and] at h2; exact h2
  have hpos : ∀ j ∈ r, 0 ≤ (wAt ws j).amt := fun j hj => by
    have := amt_pos ho (mem_some.mp (hr.perm.mem_iff.mp hj)).1; (first | lia | omega)
  have e2 := serve_sum (amt := fun j => (wAt ws j).amt) r [] (dealtF ws p) hpos (by simp) hD (dueF ws p) fun l k m e => by
    have hk := mem_some.mp (hr.perm.mem_iff.mp (show k ∈ r by rw [e]; simp))
    unfold dueF aheadF
    rw [hk.2.2, if_pos rfl, ← sum_perm ((hr.ahead e).map _)]
    simp
  rw [e1, ← sum_perm (hr.perm.map _), e2, sum_perm (hr.perm.map _)]
  have e3 : ((someF ws p b).map fun j => (wAt ws j).amt).sum = if b then wantedF ws p else offeredF ws p := by
    unfold someF wantedF offeredF
    cases b
    · rw [if_neg Bool.false_ne_true, sum_places]
      congr 2
      refine List.filter_congr fun k _ => ?_
      unfold eligF
      cases (wAt ws k).buy <;> simp
    · rw [if_pos rfl, sum_places]
      congr 2
      refine List.filter_congr fun k _ => ?_
      unfold eligF
      cases (wAt ws k).buy <;> simp
  rw [e3]
  simp only [List.map_nil, List.sum_nil]
  unfold dealtF at hD ⊢
  split <;> (first | lia | omega)
noncomputable def gainAt (w : Wish) (p n : Int) : Int := if w.buy then (w.lim - p) * n else (p - w.lim) * n
noncomputable def gainedF (ws : List Wish) (ps : List Int) (p : Int) (n : Nat) : Int := ((List.range n).map fun k => gainAt (wAt ws k) p (ps.getD k 0)).sum
theorem sum_le {f g : Nat → Int} : ∀ (l : List Nat), (∀ k ∈ l, f k ≤ g k) → (l.map f).sum ≤ (l.map g).sum
  | [], _ => by simp
  | a :: l, h => by
    have := sum_le l fun k hk => h k (List.mem_cons_of_mem _ hk)
    have := h a List.mem_cons_self
    simp only [List.map_cons, List.sum_cons]; (first | lia | omega)
theorem gained_most (ho : ∀ w ∈ ws, w.ok) (he : enoughF ws p = true) (hs : soldF ws p = true) {ps : List Int} (hf : ∀ k, k < ws.length → 0 ≤ ps.getD k 0 ∧ ps.getD k 0 ≤ (wAt ws k).amt) : gainedF ws ps p ws.length ≤ gainedF ws (piecesF ws p) p ws.length := by
  refine sum_le _ fun k hk => ?_
  have hk := List.mem_range.mp hk
  have hd : (piecesF ws p).getD k 0 = dueF ws p k := by
    unfold piecesF
    rw [List.getD_eq_getElem?_getD, List.getElem?_map, List.getElem?_range hk]; rfl
  rw [hd]
  have hb := hf k hk
  have hdue := due_fits (p := p) ho hk
  have mul_le : ∀ {c x y : Int}, 0 ≤ c → x ≤ y → c * x ≤ c * y := fun h1 h2 => Int.mul_le_mul_of_nonneg_left h2 h1
  unfold gainAt
  cases hbuy : (wAt ws k).buy
  · simp only [Bool.false_eq_true, if_false]
    by_cases c1 : (wAt ws k).lim < p
    · rw [due_all ho he hs hk (by rw [hbuy]; exact c1)]; exact mul_le (by (first | lia | omega)) hb.2
    · by_cases c2 : (wAt ws k).lim = p
      · rw [c2, Int.sub_self, Int.zero_mul, Int.zero_mul]; exact Int.le_refl _
      · rw [due_none (by unfold eligF; rw [hbuy]; exact decide_eq_false (by (first | lia | omega))), Int.mul_zero]
        have := Int.mul_nonneg (show 0 ≤ (wAt ws k).lim - p by (first | lia | omega)) hb.1
        rw [← Int.neg_sub, Int.neg_mul]; (first | lia | omega)
  · simp only [if_true]
    by_cases c1 : p < (wAt ws k).lim
    · rw [due_all ho he hs hk (by rw [hbuy]; exact c1)]; exact mul_le (by (first | lia | omega)) hb.2
    · by_cases c2 : (wAt ws k).lim = p
      · rw [c2, Int.sub_self, Int.zero_mul, Int.zero_mul]; exact Int.le_refl _
      · rw [due_none (by unfold eligF; rw [hbuy]; exact decide_eq_false (by (first | lia | omega))), Int.mul_zero]
        have := Int.mul_nonneg (show 0 ≤ p - (wAt ws k).lim by (first | lia | omega)) hb.1
        rw [← Int.neg_sub, Int.neg_mul]; (first | lia | omega)
theorem gained_shift (ws : List Wish) (ps : List Int) (p : Int) : gainedF ws ps 0 ws.length = gainedF ws ps p ws.length + p * (sideF ws ps true - sideF ws ps false) := by
  unfold gainedF sideF
  have : ∀ l : List Nat, (l.map fun k => gainAt (wAt ws k) 0 (ps.getD k 0)).sum = (l.map fun k => gainAt (wAt ws k) p (ps.getD k 0)).sum + p * (((l.filter fun k => (wAt ws k).buy == true).map fun k => ps.getD k 0).sum - ((l.filter fun k => (wAt ws k).buy == false).map fun k => ps.getD k 0).sum) := fun l => by
    induction l with
    | nil => simp
    | cons a l ih =>
      rw [List.filter_cons, List.filter_cons]
      simp only [List.map_cons, List.sum_cons, ih]
      unfold gainAt
      cases (wAt ws a).buy
      · simp only [Bool.false_eq_true, if_false, beq_self_eq_true, if_true, show (false == true) = false from rfl, List.map_cons, List.sum_cons]
        simp only [Int.mul_sub, Int.sub_mul, Int.mul_add]
        (first | lia | omega)
      · simp only [Bool.false_eq_true, if_false, beq_self_eq_true, if_true, show (true == false) = false from rfl, List.map_cons, List.sum_cons]
        simp only [Int.mul_sub, Int.sub_mul, Int.mul_add]
        (first | lia | omega)
  exact this _
end
noncomputable def take1 (l : List Int) (k : Nat) (n : Int) : List Int := l.set k (l.getD k 0 - n)
noncomputable def dealStep (l : List Int) (d : Nat × Nat × Int) : List Int := take1 (take1 l d.1 d.2.2) d.2.1 d.2.2
theorem take1_len {l : List Int} {k : Nat} {n : Int} : (take1 l k n).length = l.length := by simp [take1]
theorem dealStep_len {l : List Int} {d : Nat × Nat × Int} : (dealStep l d).length = l.length := by simp [dealStep, take1_len]
theorem take1_get {l : List Int} {k i : Nat} {n : Int} (h : k < l.length) : (take1 l k n).getD i 0 = if i = k then l.getD k 0 - n else l.getD i 0 := by
  unfold take1
  rw [List.getD_eq_getElem?_getD, List.getElem?_set]
  by_cases e : k = i
  · subst e; rw [if_pos rfl, if_pos h, if_pos rfl]; rfl
  · rw [if_neg e, if_neg fun q => e q.symm, List.getD_eq_getElem?_getD]
theorem dealStep_get {l : List Int} {b s i : Nat} {n : Int} (hb : b < l.length) (hs : s < l.length) (hne : b ≠ s) : (dealStep l (b, s, n)).getD i 0 = if i = b ∨ i = s then l.getD i 0 - n else l.getD i 0 := by
  unfold dealStep
  dsimp only
  rw [take1_get (by rw [take1_len]; exact hs), take1_get hb, take1_get hb]
  by_cases h1 : i = s
  · subst h1; rw [if_pos rfl, if_neg (fun q => hne q.symm), if_pos (Or.inr rfl)]
  · by_cases h2 : i = b
    · subst h2; rw [if_neg h1, if_pos rfl, if_pos (Or.inl rfl)]
    · rw [if_neg h1, if_neg h2, if_neg (by (first | lia | omega))]
structure DealOk (ws : List Wish) (d : Nat × Nat × Int) : Prop where
  b : d.1 < ws.length
  s : d.2.1 < ws.length
  buy : (wAt ws d.1).buy = true
  sell : (wAt ws d.2.1).buy = false
  pos : 1 ≤ d.2.2
noncomputable def Rise (d e : Nat × Nat × Int) : Prop := d.1 ≤ e.1 ∧ d.2.1 ≤ e.2.1 ∧ (d.1 < e.1 ∨ d.2.1 < e.2.1)
noncomputable def Rising (l : List (Nat × Nat × Int)) : Prop := ∀ k d e, l[k]? = some d → l[k + 1]? = some e → Rise d e
theorem Rising.snoc {l : List (Nat × Nat × Int)} {e : Nat × Nat × Int} (h : Rising l) (he : ∀ d, l.getLast? = some d → Rise d e) : Rising (l ++ [e]) := by
  intro k d e' h1 h2
  have hlt : k + 1 < (l ++ [e]).length := (List.getElem?_eq_some_iff.mp h2).1
  simp only [List.length_append, List.length_singleton] at hlt
  rw [List.getElem?_append_left (by (first | lia | omega))] at h1
  by_cases q : k + 1 < l.length
  · rw [List.getElem?_append_left q] at h2; exact h k d e' h1 h2
  · rw [List.getElem?_append_right (by (first | lia | omega)), show k + 1 - l.length = 0 by (first | lia | omega)] at h2
    cases h2
    refine he d ?_
    rw [List.getLast?_eq_getElem?, show l.length - 1 = k by (first | lia | omega)]; exact h1
structure PInv (ws : List Wish) (ps rest : List Int) (Bs Ss : List Nat) (found : List (Nat × Nat × Int)) : Prop where
  len : rest.length = ws.length
  walk : rest = found.foldl dealStep ps
  bs : ∀ b ∈ Bs, b < ws.length ∧ (wAt ws b).buy = true ∧ 0 ≤ rest.getD b 0
  ss : ∀ s ∈ Ss, s < ws.length ∧ (wAt ws s).buy = false ∧ 0 < rest.getD s 0
  bup : Bs.Pairwise (· < ·)
  sup : Ss.Pairwise (· < ·)
  zero : ∀ i, i < ws.length → i ∉ Bs → i ∉ Ss → rest.getD i 0 = 0
  sum : (Bs.map fun b => rest.getD b 0).sum = (Ss.map fun s => rest.getD s 0).sum
  good : ∀ d ∈ found, DealOk ws d
  rise : Rising found
  last : ∀ d, found.getLast? = some d → (∀ b ∈ Bs, d.1 ≤ b) ∧ (∀ s ∈ Ss, d.2.1 ≤ s) ∧ ((∀ b ∈ Bs, rest.getD b 0 = 0 ∨ d.1 < b) ∨ ∀ s ∈ Ss, d.2.1 < s)
section
variable {ws : List Wish} {ps rest : List Int} {Bs Ss : List Nat} {found : List (Nat × Nat × Int)} {b : Nat}
theorem PInv.next (h : PInv ws ps rest (b :: Bs) Ss found) (h0 : rest.getD b 0 ≤ 0) : PInv ws ps rest Bs Ss found := by
  have hb := h.bs b List.mem_cons_self
  have e : rest.getD b 0 = 0 := by (first | lia | omega)
  refine { h with bs := fun c hc => h.bs c (List.mem_cons_of_mem _ hc), bup := (List.pairwise_cons.mp h.bup).2, zero := fun i hi h1 h2 => ?_, sum := ?_, last := fun d hd => ?_ }
  · by_cases q : i = b
    · rw [q]; exact e
    · exact h.zero i hi (fun w => (List.mem_cons.mp w).elim q h1) h2
  · have := h.sum
    simp only [List.map_cons, List.sum_cons, e] at this
    (first | lia | omega)
  · obtain ⟨h1, h2, h3⟩ := h.last d hd
    exact ⟨fun c hc => h1 c (List.mem_cons_of_mem _ hc), h2, h3.imp (fun w c hc => w c (List.mem_cons_of_mem _ hc)) id⟩
theorem sum_nonneg_of {f : Nat → Int} : ∀ l : List Nat, (∀ i ∈ l, 0 ≤ f i) → 0 ≤ (l.map f).sum
  | [], _ => by simp
  | a :: l, h => by
    have h1 := h a List.mem_cons_self
    have h2 := sum_nonneg_of l fun i hi => h i (List.mem_cons_of_mem _ hi)
    simp only [List.map_cons, List.sum_cons]; (first | lia | omega)
theorem PInv.more (h : PInv ws ps rest (b :: Bs) Ss found) (h0 : 0 < rest.getD b 0) : ∃ s Ss', Ss = s :: Ss' := by
  cases Ss with
  | nil =>
    have := h.sum
    have h2 := sum_nonneg_of (f := fun b => rest.getD b 0) Bs fun c hc => (h.bs c (List.mem_cons_of_mem _ hc)).2.2
    simp only [List.map_cons, List.sum_cons, List.map_nil, List.sum_nil] at this
    (first | lia | omega)
  | cons s r => exact ⟨s, r, rfl⟩
theorem PInv.deal {s : Nat} (h : PInv ws ps rest (b :: Bs) (s :: Ss) found) (h0 : 0 < rest.getD b 0) {n : Int} (hn : n = min (rest.getD b 0) (rest.getD s 0)) :
    PInv ws ps (dealStep rest (b, s, n)) (b :: Bs) (if (dealStep rest (b, s, n)).getD s 0 = 0 then Ss else s :: Ss) (found ++ [(b, s, n)]) ∧ (dealStep rest (b, s, n)).getD b 0 = rest.getD b 0 - n ∧ (dealStep rest (b, s, n)).getD s 0 = rest.getD s 0 - n := by
  have hb := h.bs b List.mem_cons_self
  have hs := h.ss s List.mem_cons_self
  have hne : b ≠ s := fun q => by have := hb.2.1; rw [q, hs.2.1] at this; cases this
  have hbl : b < rest.length := by rw [h.len]; exact hb.1
  have hsl : s < rest.length := by rw [h.len]; exact hs.1
  have hg := fun i => dealStep_get (i := i) (n := n) hbl hsl hne
  have gb : (dealStep rest (b, s, n)).getD b 0 = rest.getD b 0 - n := by rw [hg, if_pos (Or.inl rfl)]
  have gs : (dealStep rest (b, s, n)).getD s 0 = rest.getD s 0 - n := by rw [hg, if_pos (Or.inr rfl)]
  have go : ∀ i, i ≠ b → i ≠ s → (dealStep rest (b, s, n)).getD i 0 = rest.getD i 0 := fun i h1 h2 => by rw [hg, if_neg (by (first | lia | omega))]
  have hbs : ∀ c ∈ Bs, c ≠ b ∧ c ≠ s := fun c hc => ⟨fun q => by have := (List.pairwise_cons.mp h.bup).1 c hc; (first | lia | omega), fun q => by
    have := (h.bs c (List.mem_cons_of_mem _ hc)).2.1; rw [q, hs.2.1] at this; (exact nomatch this)⟩
  have hss : ∀ c ∈ Ss, c ≠ b ∧ c ≠ s := fun c hc => ⟨fun q => by
    have := (h.ss c (List.mem_cons_of_mem _ hc)).2.1; rw [q, hb.2.1] at this; (exact nomatch this), fun q => by have := (List.pairwise_cons.mp h.sup).1 c hc; (first | lia | omega)⟩
  have hin : ∀ c, c ∈ (if (dealStep rest (b, s, n)).getD s 0 = 0 then Ss else s :: Ss) → c ∈ s :: Ss := fun c hc => by
    split at hc
    · exact List.mem_cons_of_mem _ hc
    · exact hc
  have sumB : (Bs.map fun c => (dealStep rest (b, s, n)).getD c 0).sum = (Bs.map fun c => rest.getD c 0).sum := by
    rw [List.map_congr_left fun c hc => go c (hbs c hc).1 (hbs c hc).2]
  have sumS : (Ss.map fun c => (dealStep rest (b, s, n)).getD c 0).sum = (Ss.map fun c => rest.getD c 0).sum := by
    rw [List.map_congr_left fun c hc => go c (hss c hc).1 (hss c hc).2]
  refine ⟨⟨dealStep_len.trans h.len, by rw [List.foldl_append, ← h.walk]; rfl, fun c hc => ?_, fun c hc => ?_, h.bup, ?_, fun i hi h1 h2 => ?_, ?_, fun d hd => ?_, h.rise.snoc fun d hd => ?_, fun d hd => ?_⟩, gb, gs⟩
  · rcases List.mem_cons.mp hc with rfl | hc'
    · exact ⟨hb.1, hb.2.1, by rw [gb]; (first | lia | omega)⟩
    · have := h.bs c hc
      rw [go c (hbs c hc').1 (hbs c hc').2]; exact this
  · rcases List.mem_cons.mp (hin c hc) with rfl | hc'
    · refine ⟨hs.1, hs.2.1, ?_⟩
      split at hc
      · exact absurd rfl (hss c hc).2
      · (first | lia | omega)
    · have := h.ss c (List.mem_cons_of_mem _ hc')
      rw [go c (hss c hc').1 (hss c hc').2]; exact this
  · split
    · exact (List.pairwise_cons.mp h.sup).2
    · exact h.sup
  · by_cases q : i = s
    · subst q
      split at h2
      · assumption
      · exact absurd List.mem_cons_self h2
    · have hib : i ≠ b := fun w => h1 (by rw [w]; exact List.mem_cons_self)
      rw [go i hib q]
      refine h.zero i hi h1 fun w => h2 ?_
      have w' : i ∈ Ss := (List.mem_cons.mp w).resolve_left q
      split
      · exact w'
      · exact List.mem_cons_of_mem _ w'
  · have e := h.sum
    simp only [List.map_cons, List.sum_cons] at e ⊢
    rw [sumB, gb]
    split
    · rename_i q
      rw [sumS]
      rw [gs] at q
      (first | lia | omega)
    · simp only [List.map_cons, List.sum_cons]
      rw [sumS, gs]
      (first | lia | omega)
  · rcases List.mem_append.mp hd with hd | hd
    · exact h.good d hd
    · rw [List.mem_singleton.mp hd]
      exact ⟨hb.1, hs.1, hb.2.1, hs.2.1, by show 1 ≤ n; have := hs.2.2; (first | lia | omega)⟩
  · obtain ⟨h1, h2, h3⟩ := h.last d hd
    refine ⟨h1 b List.mem_cons_self, h2 s List.mem_cons_self, ?_⟩
    rcases h3 with h3 | h3
    · left
      rcases h3 b List.mem_cons_self with q | q
      · (first | lia | omega)
      · exact q
    · exact .inr (h3 s List.mem_cons_self)
  · rw [List.getLast?_concat] at hd
    cases hd
    refine ⟨fun c hc => ?_, fun c hc => ?_, ?_⟩
    · rcases List.mem_cons.mp hc with rfl | hc
      · exact Nat.le_refl _
      · exact Nat.le_of_lt ((List.pairwise_cons.mp h.bup).1 c hc)
    · rcases List.mem_cons.mp (hin c hc) with rfl | hc
      · exact Nat.le_refl _
      · exact Nat.le_of_lt ((List.pairwise_cons.mp h.sup).1 c hc)
    · by_cases q : (dealStep rest (b, s, n)).getD s 0 = 0
      · right
        intro c hc
        rw [if_pos q] at hc
        exact (List.pairwise_cons.mp h.sup).1 c hc
      · left
        intro c hc
        rcases List.mem_cons.mp hc with rfl | hc
        · left; (first | lia | omega)
        · exact .inr ((List.pairwise_cons.mp h.bup).1 c hc)
theorem PInv.done (h : PInv ws ps rest [] Ss found) : rest = List.replicate ws.length 0 := by
  have hS : Ss = [] := by
    cases Ss with
    | nil => rfl
    | cons s r =>
      have e := h.sum
      have h1 := (h.ss s List.mem_cons_self).2.2
      have h2 := sum_nonneg_of (f := fun s => rest.getD s 0) r fun c hc => by have := (h.ss c (List.mem_cons_of_mem _ hc)).2.2; (first | lia | omega)
      simp only [List.map_cons, List.sum_cons, List.map_nil, List.sum_nil] at e
      (first | lia | omega)
  subst hS
  apply List.ext_getElem?
  intro k
  by_cases hk : k < ws.length
  · have := h.zero k hk (by simp) (by simp)
    have hk2 : k < rest.length := by rw [h.len]; exact hk
    rw [List.getD_eq_getElem?_getD, List.getElem?_eq_getElem hk2] at this
    rw [List.getElem?_replicate, if_pos hk, List.getElem?_eq_getElem hk2]
    simpa using this
  · rw [List.getElem?_eq_none (by rw [h.len]; (first | lia | omega)), List.getElem?_eq_none (by simp; (first | lia | omega))]
noncomputable def busyF (ws : List Wish) (ps : List Int) (b : Bool) : List Nat := (List.range ws.length).filter fun k => ((wAt ws k).buy == b) && decide (0 < ps.getD k 0)
theorem PInv.start (hl : ps.length = ws.length) (hf : ∀ k, k < ws.length → 0 ≤ ps.getD k 0) (he : sideF ws ps true = sideF ws ps false) : PInv ws ps ps (busyF ws ps true) (busyF ws ps false) [] := by
  have hm : ∀ c k, k ∈ busyF ws ps c ↔ k < ws.length ∧ (wAt ws k).buy = c ∧ 0 < ps.getD k 0 := fun c k => by
    unfold busyF
    rw [List.mem_filter, List.mem_range, Bool.and_eq_true, beq_iff_eq, decide_eq_true_eq]
  have hsum : ∀ c, ((busyF ws ps c).map fun k => ps.getD k 0).sum = sideF ws ps c := fun c => by
    unfold busyF sideF
    refine (sum_zero _ _ _ _ (fun k hk h1 h2 => ?_) fun k _ h => (Bool.and_eq_true _ _ ▸ h).1).symm
    rw [h1, Bool.true_and] at h2
    have := of_decide_eq_false h2
    have := hf k (List.mem_range.mp hk)
    (first | lia | omega)
  refine ⟨hl, rfl, fun c hc => ?_, fun c hc => ?_, List.Pairwise.filter _ List.pairwise_lt_range, List.Pairwise.filter _ List.pairwise_lt_range, fun i hi h1 h2 => ?_, ?_, (fun d hd => by cases hd), (fun k d e h1 => by simp at h1), (fun d hd => by simp at hd)⟩
  · have := (hm _ _).mp hc; exact ⟨this.1, this.2.1, by (first | lia | omega)⟩
  · have := (hm _ _).mp hc; exact ⟨this.1, this.2.1, this.2.2⟩
  · have := hf i hi
    rw [hm] at h1 h2
    cases hb : (wAt ws i).buy
    · have : ¬ 0 < ps.getD i 0 := fun q => h2 ⟨hi, hb, q⟩
      (first | lia | omega)
    · have : ¬ 0 < ps.getD i 0 := fun q => h1 ⟨hi, hb, q⟩
      (first | lia | omega)
  · rw [hsum, hsum, he]
end
theorem sum_set {P : Nat → Bool} {l : List Int} {k : Nat} {x : Int} (hk : k < l.length) : ∀ r : List Nat, r.Nodup → k ∈ r →
    ((r.filter P).map fun j => (l.set k x).getD j 0).sum = ((r.filter P).map fun j => l.getD j 0).sum + (if P k then x - l.getD k 0 else 0)
  | [], _, h => by cases h
  | a :: r, hn, h => by
    have hn' := List.nodup_cons.mp hn
    have get : ∀ j, (l.set k x).getD j 0 = if j = k then x else l.getD j 0 := fun j => by
      rw [List.getD_eq_getElem?_getD, List.getElem?_set]
      by_cases e : k = j
      · subst e; rw [if_pos rfl, if_pos hk, if_pos rfl]; rfl
      · rw [if_neg e, if_neg fun q => e q.symm, List.getD_eq_getElem?_getD]
    rw [List.filter_cons]
    by_cases e : a = k
    · subst e
      have same : ((r.filter P).map fun j => (l.set a x).getD j 0) = (r.filter P).map fun j => l.getD j 0 := List.map_congr_left fun j hj => by
        rw [get, if_neg fun q => hn'.1 (by rw [← q]; exact (List.mem_filter.mp hj).1)]
      have ga : (l.set a x).getD a 0 = x := by rw [get, if_pos rfl]
      cases P a <;> simp only [if_true, Bool.false_eq_true, if_false, List.map_cons, List.sum_cons, same, ga]
      all_goals (first | lia | omega)
    · have hk' : k ∈ r := (List.mem_cons.mp h).resolve_left fun q => e q.symm
      have ih := sum_set (P := P) (x := x) hk r hn'.2 hk'
      have ga : (l.set k x).getD a 0 = l.getD a 0 := by rw [get, if_neg e]
      cases P a <;> simp only [if_true, Bool.false_eq_true, if_false, List.map_cons, List.sum_cons, ih, ga]
      (first | lia | omega)
theorem side_set {ws : List Wish} {l : List Int} {k : Nat} {x : Int} {b : Bool} (h1 : k < ws.length) (h2 : k < l.length) : sideF ws (l.set k x) b = sideF ws l b + (if (wAt ws k).buy == b then x - l.getD k 0 else 0) :=
  sum_set h2 _ List.nodup_range (List.mem_range.mpr h1)
theorem side_nonneg {ws : List Wish} {l : List Int} {b : Bool} (h : ∀ k, k < ws.length → 0 ≤ l.getD k 0) : 0 ≤ sideF ws l b :=
  sum_nonneg_of _ fun k hk => h k (List.mem_range.mp (List.mem_filter.mp hk).1)
structure EInv (ws : List Wish) (ps qs : List Int) (over : Int) (k : Nat) : Prop where
  len : qs.length = k
  fit : ∀ j, j < k → 0 ≤ qs.getD j 0 ∧ qs.getD j 0 ≤ (wAt ws j).amt
  ov : over = sideF ws (qs ++ ps.drop k) true - sideF ws (qs ++ ps.drop k) false
  pos : 0 < over → ∀ j, j < k → (wAt ws j).buy = true → qs.getD j 0 = 0
  neg : over < 0 → ∀ j, j < k → (wAt ws j).buy = false → qs.getD j 0 = 0
section
variable {ws : List Wish} {ps qs : List Int} {over : Int} {k : Nat}
theorem snoc_ints {a A over less over' : Int} {b : Bool} (hf : 0 ≤ a ∧ a ≤ A)
    (hc : (b = true ∧ 0 < over ∧ less = min a over ∧ over' = over - less) ∨ (b = false ∧ over < 0 ∧ less = min a (-over) ∧ over' = over + less) ∨ ((b = true → over ≤ 0) ∧ (b = false → 0 ≤ over) ∧ less = 0 ∧ over' = over)) :
    (0 ≤ a - less ∧ a - less ≤ A) ∧ (0 < over' → 0 < over) ∧ (over' < 0 → over < 0) ∧ (0 < over' → b = true → a - less = 0) ∧ (over' < 0 → b = false → a - less = 0) ∧ over' = over - (if b then less else -less) := by
  obtain ⟨h0, h1⟩ := hf
  rcases hc with ⟨rfl, h2, h3, h4⟩ | ⟨rfl, h2, h3, h4⟩ | ⟨h2, h3, rfl, rfl⟩
  · refine ⟨by (first | lia | omega), by (first | lia | omega), by (first | lia | omega), fun q _ => by (first | lia | omega), fun _ q => (by cases q), h4⟩
  · refine ⟨by (first | lia | omega), by (first | lia | omega), by (first | lia | omega), fun _ q => (by cases q), fun q _ => by (first | lia | omega), by rw [h4, if_neg Bool.false_ne_true, Int.sub_neg]⟩
  · refine ⟨by rw [Int.sub_zero]; exact ⟨h0, h1⟩, id, id, fun q w => absurd (h2 w) (Int.not_le.mpr q), fun q w => absurd (h3 w) (Int.not_le.mpr q), ?_⟩
    cases b <;> simp
theorem EInv.snoc (h : EInv ws ps qs over k) (hk : k < ws.length) (hl : ps.length = ws.length) (hf : 0 ≤ ps.getD k 0 ∧ ps.getD k 0 ≤ (wAt ws k).amt) {less over' : Int}
    (hc : ((wAt ws k).buy = true ∧ 0 < over ∧ less = min (ps.getD k 0) over ∧ over' = over - less) ∨ ((wAt ws k).buy = false ∧ over < 0 ∧ less = min (ps.getD k 0) (-over) ∧ over' = over + less) ∨
      (((wAt ws k).buy = true → over ≤ 0) ∧ ((wAt ws k).buy = false → 0 ≤ over) ∧ less = 0 ∧ over' = over)) : EInv ws ps (qs ++ [ps.getD k 0 - less]) over' (k + 1) := by
  have hkl : k < ps.length := by rw [hl]; exact hk
  have e : (qs ++ [ps.getD k 0 - less]) ++ ps.drop (k + 1) = (qs ++ ps.drop k).set k (ps.getD k 0 - less) := by
    rw [List.set_append_right _ _ (by rw [h.len]; exact Nat.le_refl _), h.len, Nat.sub_self, List.drop_eq_getElem_cons hkl, List.set_cons_zero]
    simp
  have gk : (qs ++ ps.drop k).getD k 0 = ps.getD k 0 := by
    rw [List.getD_eq_getElem?_getD, List.getElem?_append_right (by rw [h.len]; exact Nat.le_refl _), h.len, Nat.sub_self, List.getElem?_drop, Nat.add_zero, List.getD_eq_getElem?_getD]
  have hlen : k < (qs ++ ps.drop k).length := by simp [h.len]; (first | lia | omega)
  have gold : ∀ j, j < k → (qs ++ [ps.getD k 0 - less]).getD j 0 = qs.getD j 0 := fun j hj => by
    rw [List.getD_eq_getElem?_getD, List.getElem?_append_left (by rw [h.len]; exact hj), List.getD_eq_getElem?_getD]
  have gnew : (qs ++ [ps.getD k 0 - less]).getD k 0 = ps.getD k 0 - less := by
    rw [List.getD_eq_getElem?_getD, List.getElem?_append_right (by rw [h.len]; exact Nat.le_refl _), h.len, Nat.sub_self]; rfl
  have ho := h.ov
  obtain ⟨f1, f2, f3, f4, f5, f6⟩ := snoc_ints hf hc
  refine ⟨by simp [h.len], fun j hj => ?_, ?_, fun hp j hj hb => ?_, fun hp j hj hb => ?_⟩
  · rcases Nat.lt_or_eq_of_le (Nat.le_of_lt_succ hj) with q | rfl
    · rw [gold j q]; exact h.fit j q
    · rw [gnew]; exact f1
  · rw [e, side_set hk hlen, side_set hk hlen, gk, f6, ho]
    generalize sideF ws (qs ++ ps.drop k) true = S
    generalize sideF ws (qs ++ ps.drop k) false = T
    generalize ps.getD k 0 = a
    cases (wAt ws k).buy
    · simp only [beq_self_eq_true, if_true, show (false == true) = false from rfl, Bool.false_eq_true, if_false]; (first | lia | omega)
    · simp only [beq_self_eq_true, if_true, show (true == false) = false from rfl, Bool.false_eq_true, if_false]; (first | lia | omega)
  · rcases Nat.lt_or_eq_of_le (Nat.le_of_lt_succ hj) with q | rfl
    · rw [gold j q]; exact h.pos (f2 hp) j q hb
    · rw [gnew]; exact f4 hp hb
  · rcases Nat.lt_or_eq_of_le (Nat.le_of_lt_succ hj) with q | rfl
    · rw [gold j q]; exact h.neg (f3 hp) j q hb
    · rw [gnew]; exact f5 hp hb
theorem EInv.end (h : EInv ws ps qs over ws.length) (hl : ps.length = ws.length) : qs.length = ws.length ∧ sideF ws qs true = sideF ws qs false := by
  have e : qs ++ ps.drop ws.length = qs := by rw [← hl, List.drop_length, List.append_nil]
  have ho := h.ov
  rw [e] at ho
  refine ⟨h.len, ?_⟩
  have n1 := side_nonneg (b := true) fun k hk => (h.fit k hk).1
  have n2 := side_nonneg (b := false) fun k hk => (h.fit k hk).1
  have z : ∀ b, (∀ j, j < ws.length → (wAt ws j).buy = b → qs.getD j 0 = 0) → sideF ws qs b = 0 := fun b hz => by
    have : ∀ r : List Nat, (∀ j ∈ r, qs.getD j 0 = 0) → (r.map fun j => qs.getD j 0).sum = 0 := fun r => by
      induction r with
      | nil => intro _; rfl
      | cons a r ih => intro hr; simp only [List.map_cons, List.sum_cons, hr a List.mem_cons_self, ih fun j hj => hr j (List.mem_cons_of_mem _ hj)]; rfl
    refine this _ fun j hj => ?_
    obtain ⟨h1, h2⟩ := List.mem_filter.mp hj
    exact hz j (List.mem_range.mp h1) (beq_iff_eq.mp h2)
  by_cases c1 : 0 < over
  · have := z true (h.pos c1); (first | lia | omega)
  · by_cases c2 : over < 0
    · have := z false (h.neg c2); (first | lia | omega)
    · (first | lia | omega)
theorem EInv.start (hl : ps.length = ws.length) : EInv ws ps [] (sideF ws ps true - sideF ws ps false) 0 :=
  ⟨rfl, fun j hj => by (first | lia | omega), by simp, fun _ j hj => by (first | lia | omega), fun _ j hj => by (first | lia | omega)⟩
end
end Mine

set_option Elab.async false
set_option autoImplicit false
set_option linter.unusedVariables false
namespace Mine
open PySem PySem.Spec PySem.Calls PyProof.Rows
noncomputable def sideS (b : Bool) : Str := if b then ("buy" : Str) else ("sell" : Str)
theorem sideS_ok (b : Bool) : PyData.strOk (sideS b) = true := by cases b <;> decide +kernel
theorem side_beq (w : Wish) (b : Bool) : (w.side == sideS b) = (w.buy == b) := by
  cases b
  · exact (sell_beq w).trans (by cases w.buy <;> rfl)
  · exact (buy_beq w).trans (by cases w.buy <;> rfl)
theorem vAt {ws : List Wish} {k : Nat} (h : k < ws.length) : (ws.map Wish.v)[((k : Nat) : Int).toNat]? = some (wAt ws k).v := by
  rw [Int.toNat_natCast, List.getElem?_map, List.getElem?_eq_getElem h, wAt_eq h]; rfl
theorem iAt {ps : List Int} {k : Nat} (h : k < ps.length) : (ps.map vInt)[((k : Nat) : Int).toNat]? = some (.d (.int (ps.getD k 0))) := by
  rw [Int.toNat_natCast, List.getElem?_map, List.getElem?_eq_getElem h, List.getD_eq_getElem?_getD, List.getElem?_eq_getElem h]; rfl
noncomputable def side_sumT : Contract := fun vs σ K => ∃ (i j : Nat) (ws : List Wish) (ps : List Int) (b : Bool), vs = [.ref i, .ref j, .d (.str (sideS b))] ∧ itemsAt σ i = some (ws.map Wish.v) ∧ ws.length ≤ 1000000 ∧ itemsAt σ j = some (ps.map vInt) ∧ ps.length = ws.length ∧ K (.val (.d (.int (sideF ws ps b))) σ)
noncomputable def lsideT : Contract := side_sumT
theorem side_items {ws : List Wish} {ps : List Int} {b : Bool} : (List.range ws.length).filterMap (fun k => if (wAt ws k).buy == b then some (vInt (ps.getD k 0)) else none) = (((List.range ws.length).filter fun k => (wAt ws k).buy == b).map fun k => ps.getD k 0).map vInt := by
  rw [List.map_map]
  exact filterMap_if (fun k => (wAt ws k).buy == b) (fun k => vInt (ps.getD k 0)) _
noncomputable def evenF (ws : List Wish) (ps : List Int) : Bool := decide (sideF ws ps true = sideF ws ps false)
noncomputable def evenT : Contract := fun vs σ K => ∃ i ws j xs, vs = [.ref i, .ref j] ∧ itemsAt σ i = some (ws.map Wish.v) ∧ ws.length ≤ 1000000 ∧ itemsAt σ j = some xs ∧ xs.length ≤ 1000000 ∧
  ((∃ ps, xs = ps.map vInt ∧ fitsF ws ps ∧ K (.val (.d (.bool (evenF ws ps))) σ)))
noncomputable def evenedT : Contract := fun vs σ K => ∃ (i j : Nat) (ws : List Wish) (ps : List Int), vs = [.ref i, .ref j] ∧ itemsAt σ i = some (ws.map Wish.v) ∧ ws.length ≤ 900000 ∧ itemsAt σ j = some (ps.map vInt) ∧ fitsF ws ps ∧
  ∀ qs : List Int, fitsF ws qs → sideF ws qs true = sideF ws qs false → K (.val (.ref σ.length) (σ ++ [.lst (qs.map vInt)]))
theorem fits_at {ws : List Wish} {ps : List Int} (h : fitsF ws ps) {k : Nat} (hk : k < ws.length) : 0 ≤ ps.getD k 0 ∧ ps.getD k 0 ≤ (wAt ws k).amt := by
  have h2 : k < ps.length := by rw [h.1]; exact hk
  rw [wAt_eq hk, List.getD_eq_getElem?_getD, List.getElem?_eq_getElem h2]
  exact h.2 k _ _ (List.getElem?_eq_getElem hk) (List.getElem?_eq_getElem h2)
theorem fits_of {ws : List Wish} {ps : List Int} (hl : ps.length = ws.length) (h : ∀ k, k < ws.length → 0 ≤ ps.getD k 0 ∧ ps.getD k 0 ≤ (wAt ws k).amt) : fitsF ws ps := by
  refine ⟨hl, fun k w n h1 h2 => ?_⟩
  have hk := (List.getElem?_eq_some_iff.mp h1).1
  have := h k hk
  rw [wAt_eq hk, List.getD_eq_getElem?_getD, h2] at this
  rw [List.getElem?_eq_getElem hk] at h1
  rw [← Option.some.inj h1]
  exact this
noncomputable def numbersT : Contract := fun vs σ K => ∃ (j : Nat) (ps : List Int), vs = [.ref j, .d (.int (ps.length : Int))] ∧ itemsAt σ j = some (ps.map vInt) ∧ ps.length ≤ 1000000 ∧ K (.val (.d (.bool true)) σ)
theorem eq_ints {X : Cx} {σ : Store} {i j : Nat} {a b : List Int} {g : Bool → Prop} (h1 : itemsAt σ i = some (a.map vInt)) (h2 : itemsAt σ j = some (b.map vInt)) (h : g (decide (a = b))) : cmpW X .Eq (.ref i) (.ref j) σ g := by
  have e : ∀ (ps : List Int), ps.map vInt = (ps.map PyData.int).map V.d := fun ps => by rw [List.map_map]; rfl
  refine zqk (dataOf_data (by rw [← e]; exact h1)) (dataOf_data (by rw [← e]; exact h2)) (shaped_ints _) (shaped_ints _) ?_
  rw [show PyData.eqv (.list (a.map .int)) (.list (b.map .int)) = decide (a = b) by rw [PyData.eqv, eqv_ints]]
  exact h
theorem ne_ints {X : Cx} {σ : Store} {i j : Nat} {a b : List Int} {g : Bool → Prop} (h1 : itemsAt σ i = some (a.map vInt)) (h2 : itemsAt σ j = some (b.map vInt)) (h : g (!decide (a = b))) : cmpW X .NotEq (.ref i) (.ref j) σ g := by
  have e : ∀ (ps : List Int), ps.map vInt = (ps.map PyData.int).map V.d := fun ps => by rw [List.map_map]; rfl
  refine zqn (dataOf_data (by rw [← e]; exact h1)) (dataOf_data (by rw [← e]; exact h2)) (shaped_ints _) (shaped_ints _) ?_
  rw [show PyData.eqv (.list (a.map .int)) (.list (b.map .int)) = decide (a = b) by rw [PyData.eqv, eqv_ints]]
  exact h
theorem map_int (ps : List Int) : ps.map vInt = (ps.map PyData.int).map V.d := by rw [List.map_map]; rfl
theorem if_joinP {X : Cx} {k : Nat} {env : Env} {sc : Kinds} {b b2 : List Stmt} {m : Loc} {σ : Store} {K : OutS → Prop} {R : Loc → Store → Prop} {c : Bool} (P : Loc → Store → Prop)
    (h1 : c = true → ∀ R : Loc → Store → Prop, (∀ m τ, P m τ → R m τ) → SS X k env sc (execs b env) m σ (loopS K R)) (h0 : c = false → ∀ R : Loc → Store → Prop, (∀ m τ, P m τ → R m τ) → SS X k env sc (execs b2 env) m σ (loopS K R)) (hR : ∀ m τ, P m τ → R m τ) :
    (c = true → SS X k env sc (execs b env) m σ (loopS K R)) ∧ (c = false → SS X k env sc (execs b2 env) m σ (loopS K R)) := ⟨fun h => h1 h R hR, fun h => h0 h R hR⟩
theorem len_of {α : Type} {σ : Store} {i : Nat} {xs : List α} {f : α → V} {K : OutE → Prop} (h : itemsAt σ i = some (xs.map f)) (hl : xs.length ≤ 1000000) (hK : K (.val (.d (.int xs.length)) σ)) : lenT [.ref i] σ K := ⟨_, h, by rw [List.length_map]; exact hl, by rw [List.length_map]; exact hK⟩
theorem ix {k n : Nat} (h : k < n) (hn : n ≤ 1000000) : 0 ≤ (k : Int) ∧ (k : Int) < 2 ^ 63 := by (first | lia | omega)
theorem ndt {c : Prop} [Decidable c] (h : c) : (!decide c) = false := by rw [decide_eq_true h]; rfl
theorem sv_out {X : Cx} {k : Nat} {env : Env} {sc : Kinds} {m : Loc} {σ : Store} {K : OutE → Prop} {t : Expr} (c : Bool) {F : Bool → Store → Prop} (hw : ∀ f : Bool → Store → Prop, f c σ → SV X k env sc t m σ K f) (h : F c σ) : SV X k env sc t m σ K F := hw F h
end Mine

set_option Elab.async false
set_option autoImplicit false
set_option linter.unusedVariables false
namespace Mine
open PySem PySem.Spec PySem.Calls PyProof.Rows
section
variable {X : Cx} {σ : Store} {K : OutE → Prop}
end
end Mine

set_option Elab.async false
set_option autoImplicit false
set_option linter.unusedVariables false
namespace Mine
open PySem PySem.Spec PySem.Calls PyProof.Rows
noncomputable def cntP (rest : List Int) (Bs Ss : List Nat) (found : List (Nat × Nat × Int)) : Nat := found.length + Ss.length + Bs.countP fun b => decide (rest.getD b 0 ≠ 0)
theorem cnt_next {rest : List Int} {Bs Ss : List Nat} {found : List (Nat × Nat × Int)} {b : Nat} : cntP rest Bs Ss found ≤ cntP rest (b :: Bs) Ss found := by
  unfold cntP
  rw [List.countP_cons]
  (first | lia | omega)
theorem cnt_deal {ws : List Wish} {ps rest : List Int} {Bs Ss : List Nat} {found : List (Nat × Nat × Int)} {b s : Nat} (h : PInv ws ps rest (b :: Bs) (s :: Ss) found) (h0 : 0 < rest.getD b 0) {n : Int} (hn : n = min (rest.getD b 0) (rest.getD s 0)) :
    cntP (dealStep rest (b, s, n)) (b :: Bs) (if (dealStep rest (b, s, n)).getD s 0 = 0 then Ss else s :: Ss) (found ++ [(b, s, n)]) ≤ cntP rest (b :: Bs) (s :: Ss) found := by
  obtain ⟨_, gb, gs⟩ := h.deal h0 hn
  have hb := h.bs b List.mem_cons_self
  have hs := h.ss s List.mem_cons_self
  have hne : b ≠ s := fun q => by have := hb.2.1; rw [q, hs.2.1] at this; cases this
  have same : (Bs.countP fun c => decide ((dealStep rest (b, s, n)).getD c 0 ≠ 0)) = Bs.countP fun c => decide (rest.getD c 0 ≠ 0) := by
    refine List.countP_congr fun c hc => ?_
    have hcb : c ≠ b := fun q => by have := (List.pairwise_cons.mp h.bup).1 c hc; (first | lia | omega)
    have hcs : c ≠ s := fun q => by have := (h.bs c (List.mem_cons_of_mem _ hc)).2.1; rw [q, hs.2.1] at this; cases this
    rw [dealStep_get (by rw [h.len]; exact hb.1) (by rw [h.len]; exact hs.1) hne, if_neg (by (first | lia | omega))]
  unfold cntP
  rw [List.countP_cons, List.countP_cons, same, decide_eq_true (show rest.getD b 0 ≠ 0 by (first | lia | omega)), List.length_append]
  by_cases q : (dealStep rest (b, s, n)).getD s 0 = 0
  · rw [if_pos q]
    simp only [List.length_cons, List.length_nil]
    split <;> simp <;> (first | lia | omega)
  · rw [if_neg q, decide_eq_false (show ¬ (dealStep rest (b, s, n)).getD b 0 ≠ 0 by (first | lia | omega))]
    simp
    (first | lia | omega)
theorem cnt_start {ws : List Wish} {ps : List Int} {c d : Bool} : cntP ps (busyF ws ps c) (busyF ws ps d) [] ≤ 2 * ws.length := by
  unfold cntP
  have h1 : ∀ c, (busyF ws ps c).length ≤ ws.length := fun c => Nat.le_trans (List.length_filter_le ..) (by simp)
  have h2 := h1 d
  have h3 := Nat.le_trans (List.countP_le_length (p := fun b => decide (ps.getD b 0 ≠ 0)) (l := busyF ws ps c)) (h1 c)
  simp only [List.length_nil]
  (first | lia | omega)
noncomputable def dealD (d : Nat × Nat × Int) : PyData := .tuple [.int (d.1 : Nat), .int (d.2.1 : Nat), .int d.2.2]
noncomputable def dealV (d : Nat × Nat × Int) : V := .d (dealD d)
structure Deals (ws : List Wish) (ps : List Int) (found : List (Nat × Nat × Int)) : Prop where
  zero : found.foldl dealStep ps = List.replicate ws.length 0
  good : ∀ d ∈ found, DealOk ws d
  rise : Rising found
  len : found.length ≤ 2 * ws.length
noncomputable def pairsT : Contract := fun vs σ K => ∃ i ws j xs, vs = [.ref i, .ref j] ∧ itemsAt σ i = some (ws.map Wish.v) ∧ ws.length ≤ 400000 ∧ itemsAt σ j = some xs ∧ xs.length ≤ 1000000 ∧
  (∃ ps, xs = ps.map vInt ∧ fitsF ws ps ∧
    ((sideF ws ps true = sideF ws ps false ∧ ∀ found, Deals ws ps found → K (.val (.ref σ.length) (σ ++ [.lst (found.map dealV)])))))
noncomputable def natV (k : Nat) : V := .d (.int (k : Int))
theorem busy_items {ws : List Wish} {ps : List Int} {c : Bool} : (List.range ws.length).filterMap (fun (k : Nat) => if ((wAt ws k).buy == c) && decide (0 < ps.getD k 0) then some (natV k) else none) = (busyF ws ps c).map natV :=
  filterMap_if (fun k => ((wAt ws k).buy == c) && decide (0 < ps.getD k 0)) natV _
theorem src_rngN {σ : Store} {n : Nat} (k : Nat) : srcNext σ (.rng 0 n) k = some ((List.range n).map natV)[k]? := src_rng k
theorem nAt {S : List Nat} {k : Nat} (h : k < S.length) : (S.map natV)[((k : Nat) : Int).toNat]? = some (natV S[k]) := by
  rw [Int.toNat_natCast, List.getElem?_map, List.getElem?_eq_getElem h]; rfl
section
variable {σ : Store} {a b c d x : Cell} {xs ys zs us : List V}
theorem set40 : (σ ++ [a] ++ [b] ++ [c] ++ [d]).set σ.length x = σ ++ [x] ++ [b] ++ [c] ++ [d] := by simp
theorem get40 : (σ ++ [a] ++ [b] ++ [c] ++ [d])[σ.length]? = some a := by simp
theorem get43 : (σ ++ [a] ++ [b] ++ [c] ++ [d])[σ.length + 3]? = some d := by simp
theorem set43 : (σ ++ [a] ++ [b] ++ [c] ++ [d]).set (σ.length + 3) x = σ ++ [a] ++ [b] ++ [c] ++ [x] := by simp
theorem it40 : itemsAt (σ ++ [.lst xs] ++ [b] ++ [c] ++ [d]) σ.length = some xs := by unfold itemsAt; simp [Cell.list?]
theorem it41 : itemsAt (σ ++ [a] ++ [.lst xs] ++ [c] ++ [d]) (σ.length + 1) = some xs := by unfold itemsAt; simp [Cell.list?]
theorem it42 : itemsAt (σ ++ [a] ++ [b] ++ [.lst xs] ++ [d]) (σ.length + 2) = some xs := by unfold itemsAt; simp [Cell.list?]
theorem it43 : itemsAt (σ ++ [a] ++ [b] ++ [c] ++ [.lst xs]) (σ.length + 3) = some xs := by unfold itemsAt; simp [Cell.list?]
end
theorem set_ints {ps : List Int} {k : Nat} {n : Int} : (ps.map vInt).set (((k : Nat) : Int).toNat) (.d (.int n)) = (ps.set k n).map vInt := by
  rw [Int.toNat_natCast, List.map_set]
end Mine

set_option Elab.async false
set_option autoImplicit false
set_option linter.unusedVariables false
namespace Mine
open PySem PySem.Spec PySem.Calls PyProof.Rows PySem.W
noncomputable def evP {α : Type} (lt : Nat → Nat → Bool) (N : Nat) : KasT α → (α → Prop) → Prop
  | .ret a, Q => Q a
  | .ask i j k, Q => i < N ∧ j < N ∧ evP lt N (k (lt i j)) Q
theorem evP_bind {α β : Type} {lt : Nat → Nat → Bool} {N : Nat} {f : α → KasT β} {Q : β → Prop} : ∀ (t : KasT α), evP lt N t (fun a => evP lt N (f a) Q) → evP lt N (t.bind f) Q
  | .ret _, h => h
  | .ask _ _ k, h => ⟨h.1, h.2.1, evP_bind (k _) h.2.2⟩
theorem wp_of_evP {α : Type} {lt : Nat → Nat → Bool} {N : Nat} {cmp : Nat → Nat → (Bool → Shared → Prop) → Shared → Prop} {s : Shared} (hc : ∀ i j C, i < N → j < N → C (lt i j) s → cmp i j C s) {Q : α → Shared → Prop} : ∀ (t : KasT α), evP lt N t (fun a => Q a s) → t.kasWp cmp Q s
  | .ret _, h => h
  | .ask i j k, h => hc i j _ h.1 h.2.1 (wp_of_evP hc (k _) h.2.2)
noncomputable def at0 (p : Array Nat) (i : Nat) : Nat := (p[i]?).getD 0
theorem getD_at0 (p : Array Nat) (i : Nat) : p.getD i 0 = at0 p i := by simp [at0]
theorem at0_rev {p : Array Nat} {i j : Nat} (hj : j ≤ p.size) (k : Nat) : at0 (kas_rev p i j) k = if i ≤ k ∧ k < j then at0 p (i + j - 1 - k) else at0 p k := by
  unfold at0 kas_rev
  rw [getElem?_mirror_all hj]
  split <;> rfl
theorem at0_bubble {p : Array Nat} {src d : Nat} (hs : src < p.size) (hd : d ≤ src) (k : Nat) : at0 (bubble p src d) k = if k = src - d then at0 p src else if src - d < k ∧ k ≤ src then at0 p (k - 1) else at0 p k := by
  unfold at0
  rw [getElem?_bubble hs d hd]
  split
  · rfl
  · split <;> rfl
structure SInv (N : Nat) (p : Array Nat) (k : Nat) : Prop where
  size : p.size = N
  perm : p.Perm (List.range N).toArray
  le : k ≤ N
  ident : ∀ i, k ≤ i → i < N → at0 p i = i
  low : ∀ i, i < k → at0 p i < k
noncomputable def Asc (key : Nat → Int) (p : Array Nat) (k : Nat) : Prop := ∀ i j, i < j → j < k → Lx key (at0 p i) (at0 p j)
noncomputable def Desc (key : Nat → Int) (p : Array Nat) (k : Nat) : Prop := ∀ i j, i < j → j < k → Lx key (at0 p j) (at0 p i)
section
variable {key : Nat → Int} {N : Nat} {p : Array Nat}
theorem SInv.lt {k : Nat} (v : SInv N p k) (i : Nat) (h : i < N) : at0 p i < N := by
  by_cases hk : i < k
  · exact Nat.lt_of_lt_of_le (v.low i hk) v.le
  · rw [v.ident i (by (first | lia | omega)) h]; exact h
theorem SInv.up {k : Nat} (v : SInv N p k) (h : k < N) : SInv N p (k + 1) :=
  ⟨v.size, v.perm, h, fun i h1 h2 => v.ident i (by (first | lia | omega)) h2, fun i hi => by
    by_cases q : i < k
    · have := v.low i q; (first | lia | omega)
    · rw [v.ident i (by (first | lia | omega)) (by (first | lia | omega))]; exact hi⟩
theorem SInv.rev {k i : Nat} (v : SInv N p k) : SInv N (kas_rev p i k) k := by
  have hs : k ≤ p.size := by rw [v.size]; exact v.le
  refine ⟨(mirror_size ..).trans v.size, (mirror_perm ..).trans v.perm, v.le, fun j h1 h2 => ?_, fun j hj => ?_⟩
  · rw [at0_rev hs, if_neg (by (first | lia | omega))]; exact v.ident j h1 h2
  · rw [at0_rev hs]
    split
    · exact v.low _ (by (first | lia | omega))
    · exact v.low _ hj
theorem Asc.up {n : Nat} (v : SInv N p n) (a : Asc key p n) (h1 : 1 ≤ n) (hn : n < N) (h : ¬ key (at0 p n) < key (at0 p (n - 1))) : Asc key p (n + 1) := by
  intro i j hij hj
  by_cases q : j < n
  · exact a i j hij q
  · have e : j = n := by (first | lia | omega)
    subst e
    have hk : key (at0 p i) ≤ key (at0 p (j - 1)) := by
      by_cases e : i = j - 1
      · rw [e]; exact Int.le_refl _
      · rcases a i (j - 1) (by (first | lia | omega)) (by (first | lia | omega)) with q | ⟨q, _⟩ <;> (first | lia | omega)
    have hl := v.low i hij
    have hid := v.ident j (Nat.le_refl _) hn
    unfold Lx
    rw [hid] at h ⊢
    (first | lia | omega)
noncomputable def ltK (key : Nat → Int) (i j : Nat) : Bool := decide (key i < key j)
theorem evP_asc {Q : Nat → Prop} : ∀ (f n : Nat), n + f ≤ N → 1 ≤ n → SInv N p n → Asc key p n → (∀ m, n ≤ m → m ≤ n + f → SInv N p m → Asc key p m → (m < n + f → key (at0 p m) < key (at0 p (m - 1))) → Q m) → evP (ltK key) N (kas_asc p f n) Q
  | 0, n, _, _, v, a, h => h n (Nat.le_refl _) (Nat.le_refl _) v a fun q => absurd q (Nat.lt_irrefl _)
  | f + 1, n, hN, h1, v, a, h => by
    unfold kas_asc
    rw [getD_at0, getD_at0]
    refine ⟨v.lt _ (by (first | lia | omega)), v.lt _ (by (first | lia | omega)), ?_⟩
    by_cases c : key (at0 p n) < key (at0 p (n - 1))
    · rw [show ltK key (at0 p n) (at0 p (n - 1)) = true from decide_eq_true c]
      exact h n (Nat.le_refl _) (by (first | lia | omega)) v a fun _ => c
    · rw [show ltK key (at0 p n) (at0 p (n - 1)) = false from decide_eq_false c]
      exact evP_asc f (n + 1) (by (first | lia | omega)) (by (first | lia | omega)) (v.up (by (first | lia | omega))) (a.up v h1 (by (first | lia | omega)) c) fun m m1 m2 v' a' q => h m (by (first | lia | omega)) (by (first | lia | omega)) v' a' fun w => q (by (first | lia | omega))
structure DInv (key : Nat → Int) (N : Nat) (p : Array Nat) (n q : Nat) : Prop where
  v : SInv N p n
  le : q + 1 ≤ n
  head : ∀ i j, i < j → j < n → i + (q + 1) < n → Lx key (at0 p j) (at0 p i)
  over : ∀ i j, i + (q + 1) < n → n ≤ j + (q + 1) → j < n → key (at0 p j) < key (at0 p i)
  tail : ∀ i j, i < j → j < n → n ≤ i + (q + 1) → key (at0 p i) = key (at0 p j) ∧ at0 p i < at0 p j
theorem DInv.rev {n q : Nat} (d : DInv key N p n q) : Desc key (kas_rev p (n - (q + 1)) n) n := by
  have hs : n ≤ p.size := by rw [d.v.size]; exact d.v.le
  intro i j hij hj
  have hq := d.le
  rw [at0_rev hs, at0_rev hs]
  by_cases h1 : i + (q + 1) < n
  · rw [if_neg (show ¬ (n - (q + 1) ≤ i ∧ i < n) by (first | lia | omega))]
    by_cases h2 : n ≤ j + (q + 1)
    · rw [if_pos (by (first | lia | omega))]
      exact .inl (d.over i _ h1 (by (first | lia | omega)) (by (first | lia | omega)))
    · rw [if_neg (by (first | lia | omega))]; exact d.head i j hij hj h1
  · rw [if_pos (show n - (q + 1) ≤ i ∧ i < n by (first | lia | omega)), if_pos (by (first | lia | omega))]
    have := d.tail (n - (q + 1) + n - 1 - j) (n - (q + 1) + n - 1 - i) (by (first | lia | omega)) (by (first | lia | omega)) (by (first | lia | omega))
    exact .inr this
theorem DInv.zero {n : Nat} (d : DInv key N p n 0) : Desc key p n := fun i j hij hj => d.head i j hij hj (by (first | lia | omega))
theorem DInv.last {n q : Nat} (d : DInv key N p n q) (i : Nat) (hi : i < n) : key (at0 p (n - 1)) ≤ key (at0 p i) := by
  have := d.le
  by_cases h : i + (q + 1) < n
  · exact Int.le_of_lt (d.over i (n - 1) h (by (first | lia | omega)) (by (first | lia | omega)))
  · by_cases e : i = n - 1
    · rw [e]; exact Int.le_refl _
    · exact Int.le_of_eq (d.tail i (n - 1) (by (first | lia | omega)) (by (first | lia | omega)) (by (first | lia | omega))).1.symm
theorem DInv.step {n : Nat} (v : SInv N p n) (d : Desc key p n) (h1 : 1 ≤ n) (hn : n < N) (h : ∀ i, i < n → key (at0 p n) < key (at0 p i)) : DInv key N p (n + 1) 0 := by
  refine ⟨v.up hn, by (first | lia | omega), fun i j hij hj _ => ?_, fun i j hi hj hj2 => ?_, fun i j hij hj hi => by (first | lia | omega)⟩
  · by_cases q : j < n
    · exact d i j hij q
    · have e : j = n := by (first | lia | omega)
      subst e; exact .inl (h i hij)
  · have e : j = n := by (first | lia | omega)
    subst e; exact h i (by (first | lia | omega))
theorem rev_keys {n i : Nat} (hs : n ≤ p.size) {c : Int} (h : ∀ j, j < n → c < key (at0 p j)) (j : Nat) (hj : j < n) : c < key (at0 (kas_rev p i n) j) := by
  rw [at0_rev hs]
  split
  · exact h _ (by (first | lia | omega))
  · exact h _ hj
theorem evP_desc {Q : Array Nat × Nat × Nat → Prop} : ∀ (f : Nat) (p : Array Nat) (n q : Nat), n + f ≤ N → DInv key N p n q → (∀ p' n' q', n ≤ n' → DInv key N p' n' q' → Q (p', n', q')) → evP (ltK key) N (kas_desc f p n q) Q
  | 0, p, n, q, _, d, h => h p n q (Nat.le_refl _) d
  | f + 1, p, n, q, hN, d, h => by
    have hs : n ≤ p.size := by rw [d.v.size]; exact d.v.le
    have hq := d.le
    have hid := d.v.ident n (Nat.le_refl _) (by (first | lia | omega))
    unfold kas_desc
    rw [getD_at0, getD_at0]
    refine ⟨d.v.lt _ (by (first | lia | omega)), d.v.lt _ (by (first | lia | omega)), ?_⟩
    by_cases c : key (at0 p n) < key (at0 p (n - 1))
    · rw [show ltK key (at0 p n) (at0 p (n - 1)) = true from decide_eq_true c]; dsimp only; rw [if_pos rfl]
      have hall : ∀ i, i < n → key (at0 p n) < key (at0 p i) := fun i hi => Int.lt_of_lt_of_le c (d.last i hi)
      by_cases hq0 : q > 0
      · rw [if_pos hq0]
        refine evP_desc f _ (n + 1) 0 (by (first | lia | omega)) (DInv.step d.v.rev d.rev (by (first | lia | omega)) (by (first | lia | omega)) fun i hi => ?_) fun p' n' q' h1 => h p' n' q' (by (first | lia | omega))
        rw [show at0 (kas_rev p (n - (q + 1)) n) n = at0 p n by rw [at0_rev hs, if_neg (by (first | lia | omega))]]
        exact rev_keys hs hall i hi
      · rw [if_neg hq0]
        have e : q = 0 := by (first | lia | omega)
        subst e
        exact evP_desc f _ (n + 1) 0 (by (first | lia | omega)) (DInv.step d.v d.zero (by (first | lia | omega)) (by (first | lia | omega)) hall) fun p' n' q' h1 => h p' n' q' (by (first | lia | omega))
    · rw [show ltK key (at0 p n) (at0 p (n - 1)) = false from decide_eq_false c]; dsimp only; rw [if_neg Bool.false_ne_true]
      refine ⟨d.v.lt _ (by (first | lia | omega)), d.v.lt _ (by (first | lia | omega)), ?_⟩
      by_cases c2 : key (at0 p (n - 1)) < key (at0 p n)
      · rw [show ltK key (at0 p (n - 1)) (at0 p n) = true from decide_eq_true c2]; dsimp only; rw [if_pos rfl]
        exact h p n q (Nat.le_refl _) d
      · rw [show ltK key (at0 p (n - 1)) (at0 p n) = false from decide_eq_false c2]; dsimp only; rw [if_neg Bool.false_ne_true]
        refine evP_desc f p (n + 1) (q + 1) (by (first | lia | omega)) ⟨d.v.up (by (first | lia | omega)), by (first | lia | omega), fun i j hij hj hi => ?_, fun i j hi hj hj2 => ?_, fun i j hij hj hi => ?_⟩ fun p' n' q' h1 => h p' n' q' (by (first | lia | omega))
        · by_cases w : j < n
          · exact d.head i j hij w (by (first | lia | omega))
          · have e : j = n := by (first | lia | omega)
            subst e
            have := d.over i (j - 1) (by (first | lia | omega)) (by (first | lia | omega)) (by (first | lia | omega))
            exact .inl (by (first | lia | omega))
        · by_cases w : j < n
          · exact d.over i j (by (first | lia | omega)) (by (first | lia | omega)) w
          · have e : j = n := by (first | lia | omega)
            subst e
            have := d.over i (j - 1) (by (first | lia | omega)) (by (first | lia | omega)) (by (first | lia | omega))
            (first | lia | omega)
        · by_cases w : j < n
          · exact d.tail i j hij w (by (first | lia | omega))
          · have e : j = n := by (first | lia | omega)
            subst e
            have hl := d.v.low i hij
            have hk := d.last i hij
            rw [hid] at *
            by_cases e : i = j - 1
            · subst e; (first | lia | omega)
            · have := d.tail i (j - 1) (by (first | lia | omega)) (by (first | lia | omega)) (by (first | lia | omega))
              (first | lia | omega)
theorem evP_tail3 {n : Nat} {Q : Nat × Array Nat → Prop} (v : SInv N p n) (d : Desc key p n) (h1 : 1 ≤ n) (h : ∀ m p', 1 ≤ m → SInv N p' m → Asc key p' m → Q (m, p')) : evP (ltK key) N (kas_tail3 n N p) Q := by
  have hs : n ≤ p.size := by rw [v.size]; exact v.le
  have hN := v.le
  unfold kas_tail3
  refine evP_bind _ (evP_asc (N - n) n (by (first | lia | omega)) h1 v.rev (fun i j hij hj => ?_) fun m m1 _ v' a' _ => h m _ (by (first | lia | omega)) v' a')
  rw [at0_rev hs, at0_rev hs, if_pos (by (first | lia | omega)), if_pos (by (first | lia | omega))]
  exact d _ _ (by (first | lia | omega)) (by (first | lia | omega))
theorem evP_descPart {n : Nat} {Q : Nat × Array Nat → Prop} (v : SInv N p n) (d : Desc key p n) (h1 : 1 ≤ n) (hn : n < N) (hl : ∀ i, i < n → key (at0 p n) < key (at0 p i)) (h : ∀ m p', 1 ≤ m → SInv N p' m → Asc key p' m → Q (m, p')) : evP (ltK key) N (kas_descPart n N p) Q := by
  unfold kas_descPart
  refine evP_bind _ (evP_desc _ p (n + 1) 0 (by (first | lia | omega)) (DInv.step v d h1 hn hl) fun p' n' q' hnn d' => ?_)
  dsimp only
  split
  · exact evP_tail3 d'.v.rev d'.rev (by (first | lia | omega)) h
  · have e : q' = 0 := by (first | lia | omega)
    subst e
    exact evP_tail3 d'.v d'.zero (by (first | lia | omega)) h
theorem evP_count {Q : Nat × Array Nat → Prop} (hN : 1 ≤ N) (v : SInv N p 1) (hid : at0 p 0 = 0) (h : ∀ m p', 1 ≤ m → SInv N p' m → Asc key p' m → Q (m, p')) : evP (ltK key) N (kas_count N p) Q := by
  unfold kas_count
  refine evP_bind _ (evP_asc (N - 1) 1 (by (first | lia | omega)) (Nat.le_refl _) v (fun i j hij hj => by (first | lia | omega)) fun m m1 m2 v' a' hlt => ?_)
  have hs : m ≤ p.size := by rw [v'.size]; exact v'.le
  by_cases e : m = N
  · rw [if_pos (beq_iff_eq.mpr e)]; exact h m p m1 v' a'
  · rw [if_neg (fun q => e (beq_iff_eq.mp q))]
    have hm : m < N := by (first | lia | omega)
    have hlt' := hlt (by (first | lia | omega))
    by_cases g : m > 1
    · rw [if_pos g, getD_at0, getD_at0]
      refine ⟨v'.lt _ (by (first | lia | omega)), v'.lt _ (by (first | lia | omega)), ?_⟩
      by_cases c : key (at0 p 0) < key (at0 p (m - 1))
      · rw [show ltK key (at0 p 0) (at0 p (m - 1)) = true from decide_eq_true c]; dsimp only; rw [if_pos rfl]
        exact h m p m1 v' a'
      · rw [show ltK key (at0 p 0) (at0 p (m - 1)) = false from decide_eq_false c]; dsimp only; rw [if_neg Bool.false_ne_true]
        have hlow : ∀ i, i < m → key (at0 p (m - 1)) ≤ key (at0 p i) := fun i hi => by
          by_cases e0 : i = 0
          · subst e0; (first | lia | omega)
          · have := a' 0 i (by (first | lia | omega)) hi
            unfold Lx at this
            (first | lia | omega)
        refine evP_descPart v'.rev (fun i j hij hj => ?_) m1 hm (fun i hi => ?_) h
        · rw [at0_rev hs, at0_rev hs, if_pos (by (first | lia | omega)), if_pos (by (first | lia | omega))]
          exact a' _ _ (by (first | lia | omega)) (by (first | lia | omega))
        · rw [at0_rev hs, if_neg (by (first | lia | omega)), at0_rev hs, if_pos (by (first | lia | omega))]
          have := hlow (0 + m - 1 - i) (by (first | lia | omega))
          (first | lia | omega)
    · rw [if_neg g]
      have e1 : m = 1 := by (first | lia | omega)
      subst e1
      refine evP_descPart v' (fun i j hij hj => by (first | lia | omega)) m1 hm (fun i hi => ?_) h
      have : i = 0 := by (first | lia | omega)
      subst this; exact hlt'
theorem evP_place {k : Nat} {Q : Nat → Prop} (v : SInv N p k) (a : Asc key p k) (hk : k < N) : ∀ (f l r : Nat), l ≤ r → r ≤ k → r ≤ l + f → (∀ i, i < l → ¬ key k < key (at0 p i)) → (∀ i, r ≤ i → i < k → key k < key (at0 p i)) →
    (∀ l, l ≤ k → (∀ i, i < l → ¬ key k < key (at0 p i)) → (∀ i, l ≤ i → i < k → key k < key (at0 p i)) → Q l) → evP (ltK key) N (kas_place p k f l r) Q
  | 0, l, r, h1, h2, h3, hl, hr, h => by
    have e : l = r := by (first | lia | omega)
    subst e; exact h l h2 hl hr
  | f + 1, l, r, h1, h2, h3, hl, hr, h => by
    unfold kas_place
    by_cases c : l ≥ r
    · rw [if_pos c]
      have e : l = r := by (first | lia | omega)
      subst e; exact h l h2 hl hr
    · rw [if_neg c, getD_at0, getD_at0, v.ident k (Nat.le_refl _) hk]
      refine ⟨hk, v.lt _ (by (first | lia | omega)), ?_⟩
      by_cases q : key k < key (at0 p ((l + r) / 2))
      · rw [show ltK key k (at0 p ((l + r) / 2)) = true from decide_eq_true q]; dsimp only; rw [if_pos rfl]
        refine evP_place v a hk f l ((l + r) / 2) (by (first | lia | omega)) (by (first | lia | omega)) (by (first | lia | omega)) hl (fun i hi hik => ?_) h
        by_cases e : i = (l + r) / 2
        · rw [e]; exact q
        · rcases a ((l + r) / 2) i (by (first | lia | omega)) hik with w | ⟨w, _⟩ <;> (first | lia | omega)
      · rw [show ltK key k (at0 p ((l + r) / 2)) = false from decide_eq_false q]; dsimp only; rw [if_neg Bool.false_ne_true]
        refine evP_place v a hk f ((l + r) / 2 + 1) r (by (first | lia | omega)) h2 (by (first | lia | omega)) (fun i hi => ?_) hr h
        by_cases e : i = (l + r) / 2
        · rw [e]; exact q
        · have := a i ((l + r) / 2) (by (first | lia | omega)) (by (first | lia | omega))
          unfold Lx at this; (first | lia | omega)
theorem evP_bin {Q : Array Nat → Prop} : ∀ (f : Nat) (p : Array Nat) (k : Nat), k + f = N → 1 ≤ k → SInv N p k → Asc key p k → (∀ p', SInv N p' N → Asc key p' N → Q p') → evP (ltK key) N (kas_bin f p k) Q
  | 0, p, k, hN, _, v, a, h => by
    have e : k = N := by (first | lia | omega)
    subst e; exact h p v a
  | f + 1, p, k, hN, h1, v, a, h => by
    unfold kas_bin
    have hk : k < N := by (first | lia | omega)
    have hs : k < p.size := by rw [v.size]; exact hk
    refine evP_bind _ (evP_place v a hk k 0 k (by (first | lia | omega)) (Nat.le_refl _) (by (first | lia | omega)) (fun i hi => by (first | lia | omega)) (fun i hi hik => by (first | lia | omega)) fun l hl ha hb => ?_)
    have hat : ∀ i, at0 (bubble p k (k - l)) i = if i = l then k else if l < i ∧ i ≤ k then at0 p (i - 1) else at0 p i := fun i => by
      rw [at0_bubble hs (by (first | lia | omega)), show k - (k - l) = l by (first | lia | omega), v.ident k (Nat.le_refl _) hk]
    refine evP_bin f _ (k + 1) (by (first | lia | omega)) (by (first | lia | omega)) ⟨(bubble_size ..).trans v.size, (bubble_perm ..).trans v.perm, by (first | lia | omega), fun i h1 h2 => ?_, fun i hi => ?_⟩ (fun i j hij hj => ?_) h
    · rw [hat, if_neg (by (first | lia | omega)), if_neg (by (first | lia | omega))]; exact v.ident i (by (first | lia | omega)) h2
    · rw [hat]
      split
      · (first | lia | omega)
      · split
        · have := v.low (i - 1) (by (first | lia | omega)); (first | lia | omega)
        · have := v.low i (by (first | lia | omega)); (first | lia | omega)
    · have up : ∀ i, i < l → Lx key (at0 p i) k := fun i hi => by
        have := ha i hi
        have := v.low i (by (first | lia | omega))
        unfold Lx; (first | lia | omega)
      rw [hat, hat]
      by_cases c1 : i = l
      · rw [if_pos c1, if_neg (by (first | lia | omega)), if_pos (by (first | lia | omega))]
        exact .inl (hb (j - 1) (by (first | lia | omega)) (by (first | lia | omega)))
      · rw [if_neg c1]
        by_cases c2 : j = l
        · rw [if_pos c2, if_neg (by (first | lia | omega))]; exact up i (by (first | lia | omega))
        · rw [if_neg c2]
          by_cases c3 : l < i ∧ i ≤ k
          · rw [if_pos c3, if_pos (by (first | lia | omega))]; exact a _ _ (by (first | lia | omega)) (by (first | lia | omega))
          · rw [if_neg c3]
            by_cases c4 : l < j ∧ j ≤ k
            · rw [if_pos c4]; exact a _ _ (by (first | lia | omega)) (by (first | lia | omega))
            · rw [if_neg c4]; exact a _ _ hij (by (first | lia | omega))
theorem evP_sort {Q : Array Nat → Prop} (hN : 2 ≤ N) (h : ∀ p', SInv N p' N → Asc key p' N → Q p') : evP (ltK key) N (kas_sort N) Q := by
  have e0 : ∀ i, i < N → at0 (List.range N).toArray i = i := fun i hi => by simp [at0, hi]
  unfold kas_sort
  refine evP_bind _ (evP_count (by (first | lia | omega)) ⟨by simp, Array.Perm.refl _, by (first | lia | omega), fun i _ hi => e0 i hi, fun i hi => ?_⟩ (e0 0 (by (first | lia | omega))) fun m p' hm v a => ?_)
  · rw [show i = 0 by (first | lia | omega), e0 0 (by (first | lia | omega))]; (first | lia | omega)
  · dsimp only
    have := v.le
    split
    · exact evP_bin _ p' (max m 1) (by (first | lia | omega)) (by (first | lia | omega)) (by rw [Nat.max_eq_left hm]; exact v) (by rw [Nat.max_eq_left hm]; exact a) h
    · have e : m = N := by (first | lia | omega)
      subst e; exact h p' v a
theorem sorted_list {p : Array Nat} (v : SInv N p N) (a : Asc key p N) : p.toList.Perm (List.range N) ∧ p.toList.Pairwise (Lx key) := by
  refine ⟨by simpa using Array.perm_iff_toList_perm.mp v.perm, List.pairwise_iff_getElem.mpr fun i j hi hj hij => ?_⟩
  have hj' : j < p.size := by simpa using hj
  have := a i j hij (by rw [← v.size]; exact hj')
  have e : ∀ i (h : i < p.size), at0 p i = p[i] := fun i h => by simp [at0, h]
  rw [e i (by (first | lia | omega)), e j hj'] at this
  simpa using this
end
end Mine

set_option Elab.async false
set_option autoImplicit false
set_option linter.unusedVariables false
namespace Mine
open PySem PySem.Spec PySem.Calls PyProof.Rows PySem.W
structure Maker (X : Cx) (env : Env) (P : Addr) (q : Str) : Prop where
  code : ∃ c, env.code = .ref c ∧ CodeHd X.B c P
  qual : env.qual ++ "<lambda>" = q
  glob : mainGlobals ≠ P
  bm : X.B.BuiltinsAt X.mg P
theorem codeAmong_app {pos : Pos} {a b : Int} {c cv : Value} (l : List Value) (h : TriplesOk l) (e : codeAmong pos (l ++ [rawInt a, rawInt b, c]) = some cv) : codeAmong pos l = some cv ∨ cv = c := by
  fun_induction TriplesOk l with
  | case1 =>
    simp only [List.nil_append, codeAmong, rawInt] at e
    split at e
    · exact .inr (Option.some.inj e).symm
    · cases e
  | case2 a' t b' u x rest ih =>
    simp only [List.cons_append, codeAmong] at e ⊢
    split at e
    · rename_i hc; rw [if_pos hc]; exact .inl e
    · rename_i hc; rw [if_neg hc]; exact ih h e
  | case3 l h1 h2 => exact h.elim
section
variable {X : Cx} {σ : Store} {ρ : Nat → Addr} {h h' : Heap} {t : Nat} {P : Addr} {q : Str}
theorem Rep.table (R : Rep X ρ σ h) (ht : σ[t]? = some (.tab P q)) (hx : Heap.ExtBut P h h') (hz : h.objs.size ≤ h'.objs.size) {ps : Array Value} (hP : h'.get? P = some (tabObj ps)) (htr : TriplesOk ps.toList)
    (hc : ∀ pos cv, codeAmong pos ps.toList = some cv → CodeOk h' q cv) : Rep X ρ σ h' ∧ Go Nowhere σ ρ h σ ρ h' := by
  obtain ⟨ot, its, e0, ⟨ea, ps0, eo, _⟩, _⟩ := R.cell t _ ht
  have htl := (List.getElem?_eq_some_iff.mp ht).1
  rw [ea] at e0
  have hst : ∀ b o, h.get? b = some o → Still o → h'.get? b = some o := fun b o e s => hx b o (fun w => by rw [w, e0] at e; cases e; exact s.notab (by rw [eo])) e
  refine ⟨⟨fun b o e => hx b o (fun w => ?_) (R.base b o e), fun i c hi => ?_, R.own, R.inj, R.badKeep hst⟩, ⟨hz, fun b o e _ hb => ⟨o.slots, hx b o (fun w => hb t htl (by rw [w, ea])) e, fun _ => rfl⟩, fun b o es n e d => ⟨o, es, n, hx b o (fun w => by rw [w, e0] at e; cases e; rw [eo] at d; cases d) e, d⟩, Nat.le_refl _, fun _ _ => rfl, fun i h1 h2 => absurd h2 (Nat.not_lt.mpr h1)⟩⟩
  · have := R.own t _ ht rfl
    rw [ea, ← w, e] at this; cases this
  · by_cases hit : i = t
    · subst hit
      rw [ht] at hi; cases hi
      exact ⟨tabObj ps, [], by rw [ea]; exact hP, ⟨ea, ps, rfl, htr, hc⟩, .nil⟩
    · obtain ⟨oc, its, hp, sh, ha⟩ := R.cell i c hi
      refine ⟨oc, its, hx _ _ (fun w => hit (R.inj i t (List.getElem?_eq_some_iff.mp hi).1 htl (w.trans ea.symm))) hp, sh.mono hst, ha.mono (Nat.le_refl _) (fun _ _ => rfl) hst⟩
end
theorem lam_tail {M : Model} {A : Around} {E : Value → Shared → Prop} {s : Shared} {name qual : Str} {params : Arguments} {body : Expr} {scope : Scope} {env : Env} {c P : Addr} {ps : Array Value} {pos : Pos} {firstLine : Nat} {mg : Str → Option Value}
    {clos : List (Str × Addr)} {Q : Value → Shared → Prop} (hcl : closureFor scope env = pure clos) (hge0 : env.globals = mainGlobals) (hg : s.heap.Ns mainGlobals mg) (hcode : env.code = .ref c) (C : CodeHd s.heap c P) (hP : s.heap.get? P = some (tabObj ps)) (ht : TriplesOk ps.toList)
    (hnf : codeAmong pos ps.toList = none) (hgP : mainGlobals ≠ P) (hb : s.heap.BuiltinsAt mg P)
    (h : ∀ c' ctv h' tk, Heap.ExtBut P s.heap h' → s.heap.objs.size ≤ c' → c' < h'.objs.size → CodeOk h' qual (.ref c') → h'.get? P = some (tabObj (ps ++ #[rawInt pos.line, rawInt pos.col, .ref c'])) →
      Q (.ref h'.objs.size) { s with heap := h'.push (kla_obj name qual params body scope clos ((mg "__name__").getD .none) c' ctv), toks := tk }) :
    wpAny M A (makeTail name qual params (.expr body) scope env .none .none none pos firstLine) Q E s := by
  obtain ⟨bm, ob, hbm, hne0, _, hneP, hbo, hcls, hdict, hdata⟩ := hb
  have codeOk : ∀ {h' : Heap} {c' P' : Addr}, h'.CodeRec (.ref c') qual → h'.TableAt c' P' #[] → CodeOk h' qual (.ref c') := fun {h' c' P'} hrec htb => by
    obtain ⟨a, o, vs, t, e1, e2, e3, e4⟩ := hrec
    obtain ⟨⟨o', vs', f1, f2, f3, _⟩, _⟩ := htb
    cases e1
    rw [e2] at f1; cases f1
    exact ⟨_, o, vs, t, rfl, e2, f2, e3, e4⟩
  unfold makeTail
  rw [hcl, hge0]
  refine wpAny_bind (wpAny_pure ?_)
  cases clos with
  | nil =>
    simp only [List.isEmpty_nil, if_true]
    refine wpAny_bind (wpAny_pure ?_)
    refine wpAny_bind (wpAny_functionCodeX hcode (C.code hP ht) (C.tab hP) hnf fun c' h' tk hx hge hlt _ hrec htb ⟨P', _, _, htb'⟩ => ?_)
    have hg' := hg.extBut hx hgP
    refine wpAny_bind (wpAny_builtinsFor hg' hbm hne0 (hx _ _ hneP hbo) hcls hdict hdata ?_)
    refine wpAny_bind (wpAny_nsGet hg' ?_)
    exact wpAny_bind (wpAny_pure (wpAny_newObj_type (h c' .none h' tk hx hge hlt (codeOk hrec htb') htb.2) (by size_fits)))
  | cons q r =>
    simp only [List.isEmpty_cons, Bool.false_eq_true, if_false]
    refine wpAny_bind (wpAny_newTextTuple ?_)
    refine wpAny_bind (wpAny_functionCodeX hcode ((C.keeps fun b o e => Heap.get?_push_of_some _ e).code (Heap.get?_push_of_some _ hP) ht) ((C.keeps fun b o e => Heap.get?_push_of_some _ e).tab (Heap.get?_push_of_some _ hP)) hnf fun c' h' tk hx hge hlt _ hrec htb ⟨P', _, _, htb'⟩ => ?_)
    have hg' := (hg.push _).extBut hx hgP
    have hx' : Heap.ExtBut P s.heap h' := fun b o hb' e => hx b o hb' (Heap.get?_push_of_some _ e)
    have hge' : s.heap.objs.size ≤ c' := Nat.le_trans (by rw [Heap.size_push]; (first | lia | omega)) hge
    refine wpAny_bind (wpAny_builtinsFor hg' hbm hne0 (hx' _ _ hneP hbo) hcls hdict hdata ?_)
    refine wpAny_bind (wpAny_nsGet hg' ?_)
    exact wpAny_bind (wpAny_pure (wpAny_newObj_type (h c' _ h' tk hx' hge' hlt (codeOk hrec htb') htb.2) (by size_fits)))
section
variable {X : Cx} {k : Nat} {env : Env} {sc : Kinds} {m : Loc} {σ : Store} {ρ : Nat → Addr} {A : Around} {s : Shared} {E : Value → Shared → Prop} {t : Nat} {P : Addr} {q : Str} {scope : Scope} {x : Str} {params : Arguments} {body : Expr} {pos : Pos}
theorem lam_sound {Q : Value → Shared → Prop} (cx : CxOk X) (mk : Maker X env P q) (R : Rep X ρ σ s.heap) (F : Frm X env sc m σ.length ρ s.heap) (ht : σ[t]? = some (.tab P q)) (ok : CompOk sc scope x) (hdef : defaultsOf params env = ([], []))
    (h : ∀ fa h' tk cv ctv pm, Rep X ρ σ h' → Go Nowhere σ ρ s.heap σ ρ h' → CodeOk h' q cv → h'.get? fa = some { cls := .type "function", data := .func (kla_fn "<lambda>" q params body scope (clos env.cells scope.names []) pm cv ctv) } → Q (.ref fa) { s with heap := h', toks := tk }) :
    wpAny (model X.prog X.w) A (eval (.Lambda params body scope pos) env) Q E s := by
  obtain ⟨c, hcode, C⟩ := mk.code
  obtain ⟨ot, its, e0, ⟨ea, ps, eo, htr, hcs⟩, _⟩ := R.cell t _ ht
  rw [ea, eo] at e0
  obtain ⟨bm, ob, b1, b2, b3, b4, b5, b6⟩ := mk.bm
  have hcl := F.closure ok
  refine kla_eval hdef ?_
  rw [mk.qual, makeFunction_eq]
  simp only [List.zip_nil_right, List.filterMap_nil, List.isEmpty_nil, if_true, pure_bind]
  cases hcm : codeAmong pos ps.toList with
  | some cv =>
    refine kla_makeTailHit (mg := X.mg) hcl F.glob (cx.g.keeps R.base) hcode (C.keeps R.base) e0 htr hcm ⟨bm, ob, b1, b2, b3, b4, R.base _ _ b5, b6⟩ fun ctv h' tk hk hsz => ?_
    have kp : ∀ b o, s.heap.get? b = some o → (h'.push { cls := .type "function", data := .func (kla_fn "<lambda>" q params body scope (clos env.cells scope.names []) ((X.mg "__name__").getD .none) cv ctv) }).get? b = some o := fun b o e => Heap.get?_push_of_some _ (hk b o e)
    have sz : s.heap.objs.size ≤ (h'.push { cls := .type "function", data := .func (kla_fn "<lambda>" q params body scope (clos env.cells scope.names []) ((X.mg "__name__").getD .none) cv ctv) }).objs.size := by rw [Heap.size_push]; (first | lia | omega)
    exact h _ _ tk cv ctv _ (R.grow kp) (.ofGrow sz kp) ((hcs pos cv hcm).mono fun b o e _ => kp b o e) (Heap.get?_push_size _ rfl)
  | none =>
    refine lam_tail (mg := X.mg) hcl F.glob (cx.g.keeps R.base) hcode (C.keeps R.base) e0 htr hcm mk.glob ⟨bm, ob, b1, b2, b3, b4, R.base _ _ b5, b6⟩ fun c' ctv h' tk hx hge hlt hco hP => ?_
    have hz : s.heap.objs.size ≤ h'.objs.size := Nat.le_of_lt (Nat.lt_of_le_of_lt hge hlt)
    have hst : ∀ b o, s.heap.get? b = some o → Still o → h'.get? b = some o := fun b o e st => hx b o (fun w => by rw [w, e0] at e; cases e; exact st.notab rfl) e
    obtain ⟨R', g'⟩ := R.table ht hx hz hP (by
      have := TriplesOk_snoc pos.line pos.col (.ref c') ps.toList htr
      simpa using this) fun pos' cv' hc' => by
        have e' : codeAmong pos' (ps.toList ++ [rawInt pos.line, rawInt pos.col, .ref c']) = some cv' := by simpa using hc'
        rcases codeAmong_app _ htr e' with w | w
        · exact (hcs pos' cv' w).mono hst
        · rw [w]; exact hco
    obtain ⟨R'', g''⟩ := R'.push (W := Nowhere) (kla_obj "<lambda>" q params body scope (clos env.cells scope.names []) ((X.mg "__name__").getD .none) c' ctv)
    exact h _ _ tk (.ref c') ctv _ R'' (g'.trans g'') (hco.mono fun b o e _ => Heap.get?_push_of_some _ e) (Heap.get?_push_size _ rfl)
theorem Frm.lam {xv : V} {a : Value} {fa L : Addr} {cv : Value} {qual : Str} (F : Frm X env sc m σ.length ρ s.heap) (ok : CompOk sc scope x) (hns : s.heap.Ns L (fun y => ([(x, a)] : List (Str × Value)).reverse.lookup y)) (hL : X.B.get? L = none) (hsep : ∀ i, i < σ.length → ρ i ≠ L) (ha : Has X σ.length ρ s.heap xv a) :
    Frm X (newEnv scope L mainGlobals (clos env.cells scope.names []) qual (some fa) cv none builtinsNs) (kindsOf scope.names) (upd (compLoc scope.names m) x xv) σ.length ρ s.heap where
  kind := ok.kind
  glob := rfl
  bi := rfl
  kinds := {
    loc := fun y hy => hy
    cell := fun y hy => hy
    free := fun y hy => .inr hy
    glob := fun y hy => hy
    debug := ok.debug
    classdict := ok.classdict }
  ns := ⟨_, hns, fun y v hy hv => by
    unfold upd at hv
    by_cases e : y = x
    · subst e
      rw [if_pos rfl] at hv; cases hv
      exact ⟨a, by simp, ha⟩
    · rw [if_neg e] at hv
      unfold compLoc at hv
      have hy' : scope.names.lookup y = some .local := hy
      rw [hy'] at hv; cases hv⟩
  cells := fun y hy => by
    have hf : scope.names.lookup y = some .free := by
      rcases hy with q | q
      · exact absurd rfl (ok.nocell _ (mem_lookup q))
      · exact q
    obtain ⟨c, ov, h1, h2, h3⟩ := F.cells y (ok.free _ (mem_lookup hf) rfl)
    have hs := clos_isSome (cells := env.cells) (n := y) scope.names [] (.inr ⟨mem_lookup hf, by rw [h1]; rfl⟩)
    obtain ⟨c', hc'⟩ := Option.isSome_iff_exists.mp hs
    have := clos_sub hc'
    rw [h1] at this; cases this
    refine ⟨c, ov, hc', h2, fun v hv => h3 v ?_⟩
    have hne : y ≠ x := fun e => by rw [e, ok.loc] at hf; cases hf
    unfold upd at hv
    rw [if_neg hne] at hv
    unfold compLoc at hv
    rw [hf] at hv; exact hv
  isCells := fun y c hy => F.isCells y c (clos_sub hy)
  sepL := hsep
  newL := hL
  newC := fun y c hy => F.newC y c (clos_sub hy)
  apart := fun y z c hy hz => F.apart y z c (clos_sub hy) (clos_sub hz)
end
section
variable {X : Cx} {k : Nat} {env : Env} {sc : Kinds} {m : Loc} {σ : Store} {ρ : Nat → Addr} {A : Around} {s : Shared} {E : Value → Shared → Prop} {q : Str} {scope : Scope} {x : Str} {params : Arguments} {body : Expr}
structure OneArg (params : Arguments) (x : Str) : Prop where
  a : params.posonlyargs = []
  b : params.args.map (·.arg) = [x]
  c : params.vararg = none
  d : params.kwonlyargs = []
  e : params.kwarg = none
theorem lam_call {Q : Value → Shared → Prop} {fa : Addr} {cv ctv pm a : Value} {xv : V} {kk : Int} (cx : CxOk X) (F : Frm X env sc m σ.length ρ s.heap) (ar : ArC X (k + 1) A s.heap) (R : Rep X ρ σ s.heap) (ok : CompOk sc scope x) (one : OneArg params x) (hco : scope.isCoroutine = false) (hgen : scope.isGenerator = false)
    (hfo : s.heap.get? fa = some { cls := .type "function", data := .func (kla_fn "<lambda>" q params body scope (clos env.cells scope.names []) pm cv ctv) }) (hcd : CodeOk s.heap q cv) (ha : Has X σ.length ρ s.heap xv a)
    (hw : ∀ env', SE X k env' (kindsOf scope.names) (eval body env') (upd (compLoc scope.names m) x xv) σ (fun o => o = .val (.d (.int kk)) σ))
    (h : ∀ ρ' h' tk t', Rep X ρ' σ h' → Go Nowhere σ ρ s.heap σ ρ' h' → Q (.int kk t') { s with heap := h', toks := tk }) : wpAny (model X.prog X.w) A (call (.ref fa) [a]) Q E s := by
  have hdep := ar.depth
  have hrec : s.heap.CodeRec cv q := by
    obtain ⟨b, o, vs, t, e1, e2, _, e4, e5⟩ := hcd
    exact ⟨b, o, vs, t, e1, e2, e4, e5⟩
  refine wpAny_call (kla_callFunE (by (first | lia | omega)) hfo rfl hco hgen rfl hrec ?_)
  rw [bind_plain (names := [x]) (vals := [a]) one.a one.b one.c one.d one.e rfl (by simp) rfl]
  refine wpAny_pure (wpAny_newFunctionEnv ok.nocell (fun y hy => ?_) (fun h₁ hns hsb => ⟨(cx.nolimit.keeps R.base).fresh _ hsb, ?_⟩) ok.kind)
  · have : y = (x, a) := by simpa using hy
    rw [this]; exact ok.loc
  have hk₁ : ∀ b o, s.heap.get? b = some o → h₁.get? b = some o := fun b o e => hsb.extBut b o (Nat.ne_of_lt (Heap.lt_size e)) (Heap.get?_push_of_some _ e)
  have hz : s.heap.objs.size ≤ h₁.objs.size := by
    obtain ⟨o', es, ep, e', _⟩ := hns
    exact Nat.le_of_lt (Heap.lt_size e')
  have R₁ : Rep X ρ σ h₁ := R.grow hk₁
  have g₁ : Go Nowhere σ ρ s.heap σ ρ h₁ := .ofGrow hz hk₁
  have hnone : X.B.get? s.heap.objs.size = none := by
    cases e : X.B.get? s.heap.objs.size with
    | none => rfl
    | some o => exact absurd (Heap.lt_size (R.base _ _ e)) (Nat.lt_irrefl _)
  have F₁ := (F.go R g₁).lam (s := { s with heap := h₁ }) (fa := fa) (cv := cv) (qual := q ++ ".<locals>.") ok hns hnone (fun i hi e => by have := R.lt hi; rw [e] at this; exact Nat.lt_irrefl _ this) (ha.go R g₁ .nowhere)
  have hfr : (newEnv scope s.heap.objs.size mainGlobals (clos env.cells scope.names []) (q ++ ".<locals>.") (some fa) cv none builtinsNs).frame = some s.heap.objs.size := rfl
  have hsc : (newEnv scope s.heap.objs.size mainGlobals (clos env.cells scope.names []) (q ++ ".<locals>.") (some fa) cv none builtinsNs).scope = scope := rfl
  generalize newEnv scope s.heap.objs.size mainGlobals (clos env.cells scope.names []) (q ++ ".<locals>.") (some fa) cv none builtinsNs = env' at F₁ hfr hsc ⊢
  have ar₁ : Ar X k (A.deeper env') env' h₁ := {
    handled := fun q => ar.handled (by (first | lia | omega))
    depth := by show A.depth + 1 + k < recursionLimit; (first | lia | omega)
    units := by show A.units + 3 + 20 * k + 200 < cLine; have := ar.units; (first | lia | omega)
    stack := by
      obtain ⟨l, h1, h3⟩ := ar.stack
      refine ⟨env', l, ?_, rfl, ?_⟩
      · show A.frames.map (env' :: ·) = _
        rw [h1]; rfl
      · intro e he
        rcases List.mem_cons.mp he with rfl | he
        · obtain ⟨o', es, ep, e', d, _⟩ := hns
          exact ⟨by rw [hsc, ok.kind]; decide, _, o', es, ep, hfr, hnone, e', d⟩
        · exact h3.go g₁ e he }
  refine kla_codeExpr (hw env' (A.deeper env') { s with heap := h₁, toks := s.toks + 1 } ρ _ _ ar₁ R₁ F₁ (fun v σ' ρ' a' h' tk hK R' g' hv => ?_) fun _ _ _ _ _ _ hK => by cases hK)
  cases hK
  obtain ⟨t', rfl⟩ := hv.int_inv
  exact h ρ' h' tk t' R' (g₁.trans g')
end
end Mine

set_option Elab.async false
set_option autoImplicit false
set_option linter.unusedVariables false
namespace Mine
open PySem PySem.Spec PySem.Calls PyProof.Rows PySem.W
theorem ints_get : ∀ {vs : List Value} {ns : List Int}, IntsAre vs ns → ∀ {i : Nat} {n : Int}, ns[i]? = some n → ∃ t, vs[i]? = some (.int n t)
  | _, _, .nil, i, n, e => by simp at e
  | _, _, .cons m t r, i, n, e => by
    cases i with
    | zero => simp at e; subst e; exact ⟨t, rfl⟩
    | succ i => simpa using ints_get r (by simpa using e)
section
variable {X : Cx} {σ : Store} {ρ ρ' : Nat → Addr} {h₀ h' : Heap}
theorem raw_turn {Y : Addr} {ys : Array Value} {n : Nat} (f : Array Value → Array Value) (R : Rep X ρ' σ h') (g : Go Nowhere σ ρ h₀ σ ρ' h') (hY : h₀.objs.size ≤ Y) (hsep : ∀ i, i < σ.length → ρ' i ≠ Y) (hB : X.B.get? Y = none) (e : h'.get? Y = some (seqObj "list" ys n)) :
    Rep X ρ' σ (h'.update Y (Obj.mapSeq f)) ∧ Go Nowhere σ ρ h₀ σ ρ' (h'.update Y (Obj.mapSeq f)) ∧ (∃ c, (h'.update Y (Obj.mapSeq f)).get? Y = some (seqObj "list" (f ys) c)) ∧ ∀ b o, b ≠ Y → h'.get? b = some o → (h'.update Y (Obj.mapSeq f)).get? b = some o := by
  have sb := Heap.SameBut.update h' Y (Obj.mapSeq f)
  have ex := Ext1.ofSame sb
  exact ⟨R.but ex (fun o eo => by rw [e] at eo; cases eo; exact Still.notList rfl) hsep hB, g.ext1 ex hY, ⟨_, get?_update_seq e f⟩, fun b o hb eo => (sb.2 b hb).trans eo⟩
end
section
variable {X : Cx} {k : Nat} {env : Env} {sc : Kinds} {m : Loc} {σ : Store} {ρ : Nat → Addr} {A : Around} {s : Shared} {E : Value → Shared → Prop} {q : Str} {scope : Scope} {x : Str} {params : Arguments} {body : Expr}
theorem sort_run {A : Around} {vs ks : List Value} {key : Nat → Int} {E : Value → Shared → Prop} {s : Shared} {α : Type} {T : SortSt → Sem α} {Q : α → Shared → Prop} (hk : IntsAre ks ((List.range vs.length).map key)) (h64 : vs.length < 64)
    (h : ∀ (p : List Nat) st, p.Perm (List.range vs.length) → p.Pairwise (Lx key) → (arrOf st).map (·.2) = List.toArray (p.map fun i => vs.getD i .none) → failedOf st = none → wpAny (model X.prog X.w) A (T st) Q E s) :
    wpAny (model X.prog X.w) A (do
      let kind ← if vs.toArray.size < 2 then pure general' else keyKind' ks.toArray
      let ((), st) ← (if vs.toArray.size < 2 then pure () else sortRuns').run (SortSt.mk' kind (ks.toArray.zip vs.toArray) #[] 7 none)
      T st) Q E s := by
  have hl : ks.length = vs.length := by have := hk.length; simpa using this
  by_cases h2 : vs.toArray.size < 2
  · rw [if_pos h2, if_pos h2]
    refine wpAny_bind (wpAny_pure ?_)
    refine wpAny_bind (wpAny_pure ?_)
    rw [List.size_toArray] at h2
    refine h (List.range vs.length) _ (List.Perm.refl _) ?_ ?_ rfl
    · have : vs.length = 0 ∨ vs.length = 1 := by (first | lia | omega)
      rcases this with e | e <;> rw [e] <;> simp
    · show ((ks.toArray.zip vs.toArray).map (·.2)) = _
      apply Array.toList_inj.mp
      rw [Array.toList_map, Array.toList_zip]
      simp only [List.toList_toArray]
      apply List.ext_getElem?
      intro i
      rw [List.getElem?_map, List.getElem?_map]
      by_cases hi : i < vs.length
      · rw [List.getElem?_range hi, List.getElem?_zip_eq_some (z := (ks[i]'(by (first | lia | omega)), vs[i])) |>.mpr ⟨List.getElem?_eq_getElem (by (first | lia | omega) : i < ks.length), List.getElem?_eq_getElem hi⟩]
        simp [List.getD_eq_getElem?_getD, hi]
      · rw [List.getElem?_eq_none (by simp; (first | lia | omega)), List.getElem?_eq_none (by simp; (first | lia | omega))]; rfl
  · rw [if_neg h2, if_neg h2]
    rw [List.size_toArray] at h2
    rw [ksk_kind (keys := ks.toArray) (kz := (List.range vs.length).map key) (by simpa using hk) (by simp [hl]; (first | lia | omega))]
    refine wpAny_bind (wpAny_pure ?_)
    refine wpAny_bind (wpAny_mono (kat_run (Q := fun st' s' => s' = s ∧ ∃ p : Array Nat, p.size = vs.length ∧ arrOf st' = p.map (kas_item (ks.toArray.zip vs.toArray)) ∧ failedOf st' = none ∧ SInv vs.length p vs.length ∧ Asc key p vs.length)
      (G := fun p s' => s' = s ∧ SInv vs.length p vs.length ∧ Asc key p vs.length) hl (by (first | lia | omega)) h64 (fun p st' s' a1 a2 a3 ⟨a4, a5, a6⟩ => ⟨a4, p, a1, a2, a3, a5, a6⟩)
      (wp_of_evP (lt := ltK key) (N := vs.length) (fun i j C hi hj hC => ?_) _ (evP_sort (by (first | lia | omega)) fun p' v a => ⟨rfl, v, a⟩))) ?_ fun _ _ e => e)
    · have get : ∀ i, i < vs.length → ∃ t, ks.getD i .none = .int (key i) t := fun i hi => by
        have e : ((List.range vs.length).map key)[i]? = some (key i) := by rw [List.getElem?_map, List.getElem?_range hi]; rfl
        obtain ⟨t, ht⟩ := ints_get hk e
        exact ⟨t, by rw [List.getD_eq_getElem?_getD, ht]; rfl⟩
      obtain ⟨t1, e1⟩ := get i hi
      obtain ⟨t2, e2⟩ := get j hj
      unfold kas_ask
      rw [e1, e2]
      exact kat_lt_int hC
    · rintro ⟨⟨⟩, st⟩ s' ⟨rfl, p, hp, har, hf, v, a⟩
      obtain ⟨sp, ss⟩ := sorted_list v a
      exact h p.toList st sp ss (kat_snds hl har) hf
theorem hall_pick {ρ : Nat → Addr} {h : Heap} {n : Nat} {xs : List V} {vs : List Value} (ha : HasAll X n ρ h xs vs) : ∀ p : List Nat, (∀ i ∈ p, i < xs.length) → HasAll X n ρ h (p.map fun i => xs.getD i (.d .none)) (p.map fun i => vs.getD i .none)
  | [], _ => .nil
  | i :: p, hp => by
    have hi := hp i List.mem_cons_self
    obtain ⟨a, h1, h2⟩ := ha.get (List.getElem?_eq_getElem hi)
    refine .cons ?_ (hall_pick ha p fun j hj => hp j (List.mem_cons_of_mem _ hj))
    show Has X n ρ h (xs.getD i (.d .none)) (vs.getD i .none)
    rw [List.getD_eq_getElem?_getD, List.getElem?_eq_getElem hi, List.getD_eq_getElem?_getD, h1]
    exact h2
theorem ArC.in2 {k : Nat} {A : Around} {h : Heap} (a : ArC X (k + 1) A h) : ArC X k A.in1.in1 h where
  handled := fun q => a.handled (by (first | lia | omega))
  depth := by have := a.depth; show A.depth + k < _; (first | lia | omega)
  units := by have := a.units; show A.units + 1 + 1 + 20 * k + 200 < _; (first | lia | omega)
  stack := a.stack
theorem ArC.go {k : Nat} {A : Around} {W : Addr → Prop} {σ σ' : Store} {ρ ρ' : Nat → Addr} {h h' : Heap} (a : ArC X k A h) (g : Go W σ ρ h σ' ρ' h') : ArC X k A h' :=
  { a with stack := let ⟨l, h1, h2⟩ := a.stack; ⟨l, h1, h2.go g⟩ }
theorem raw_keep {σ : Store} {ρ ρ' : Nat → Addr} {h h' : Heap} {Y : Addr} {ys : Array Value} {n : Nat} {T : String} (g : Go Nowhere σ ρ h σ ρ' h') (hsep : ∀ i, i < σ.length → ρ i ≠ Y) (e : h.get? Y = some (seqObj T ys n)) : h'.get? Y = some (seqObj T ys n) := by
  obtain ⟨sl, e1, f1⟩ := g.keep Y _ e (fun q => q) fun i hi q => hsep i hi q.symm
  rw [f1 (fun es n q => nomatch q)] at e1
  exact e1
theorem sorted_sound {Q : Value → Shared → Prop} {fa : Addr} {cv ctv pm : Value} {l : Nat} {xs : List V} {key : Nat → Int} (cx : CxOk X) (F : Frm X env sc m σ.length ρ s.heap) (ar : ArC X (k + 2) A s.heap) (R : Rep X ρ σ s.heap) (ok : CompOk sc scope x) (one : OneArg params x) (hco : scope.isCoroutine = false) (hgen : scope.isGenerator = false)
    (hfo : s.heap.get? fa = some { cls := .type "function", data := .func (kla_fn "<lambda>" q params body scope (clos env.cells scope.names []) pm cv ctv) }) (hcd : CodeOk s.heap q cv) (hl : itemsAt σ l = some xs) (h64 : xs.length < 64)
    (hw : ∀ j xv, xs[j]? = some xv → ∀ env', SE X k env' (kindsOf scope.names) (eval body env') (upd (compLoc scope.names m) x xv) σ (fun o => o = .val (.d (.int (key j))) σ))
    (h : ∀ (p : List Nat) ρ' h' tk, p.Perm (List.range xs.length) → p.Pairwise (Lx key) → Rep X ρ' (σ ++ [.lst (p.map fun i => xs.getD i (.d .none))]) h' → Go Nowhere σ ρ s.heap (σ ++ [.lst (p.map fun i => xs.getD i (.d .none))]) ρ' h' → Q (.ref (ρ' σ.length)) { s with heap := h', toks := tk }) :
    wpAny (model X.prog X.w) A (call (.builtin "sorted") [.ref (ρ l)] [(Str.ofString "key", .ref fa)]) Q E s := by
  obtain ⟨hll, vs, ⟨n, e⟩, hall⟩ := R.list hl
  have hvl : vs.length = xs.length := hall.length.symm
  have hL : s.heap.IsList (ρ l) vs.toArray := ⟨_, e, rfl, n, rfl⟩
  refine call_function_entry_kw kind_sorted plain_sorted entry_sorted (ksk_s1 _ _) ?_
  unfold Builtin.«sorted»
  refine wpAny_bind (m := checkCount "sorted" 1 1 _) (wpAny_pure ?_)
  refine wpAny_bind (collect_list hL ?_ (by rw [sizeLine_eq]; (first | lia | omega)))
  refine wpAny_bind (wpAny_newList ?_ (by rw [sizeLine_eq]; (first | lia | omega)))
  obtain ⟨D, hD⟩ : ∃ D, D = s.heap.objs.size + 1 := ⟨_, rfl⟩
  have hsz : ((s.heap.push (seqObj "list" #[] 0)).update s.heap.objs.size (Obj.mapSeq (· ++ vs.toArray))).objs.size = D := by
    rw [Heap.size_update, size_push', hD]
  have keep : ∀ b o, s.heap.get? b = some o → (((s.heap.push (seqObj "list" #[] 0)).update s.heap.objs.size (Obj.mapSeq (· ++ vs.toArray))).push (seqObj "list" vs.toArray 0)).get? b = some o := fun b o q => by
    have hlt : b < s.heap.objs.size := Heap.lt_size q
    rw [Heap.get?_push_ne _ _ _ (by rw [hsz, hD]; exact Nat.ne_of_lt (Nat.lt_succ_of_lt hlt)), Heap.get?_update_ne _ _ _ _ (Nat.ne_of_lt hlt), Heap.get?_push_ne _ _ _ (Nat.ne_of_lt hlt)]
    exact q
  have hoL : (((s.heap.push (seqObj "list" #[] 0)).update s.heap.objs.size (Obj.mapSeq (· ++ vs.toArray))).push (seqObj "list" vs.toArray 0)).get? D = some (seqObj "list" vs.toArray 0) := by
    rw [← hsz]; exact Heap.get?_push_size _ rfl
  have hsz1 : (((s.heap.push (seqObj "list" #[] 0)).update s.heap.objs.size (Obj.mapSeq (· ++ vs.toArray))).push (seqObj "list" vs.toArray 0)).objs.size = D + 1 := by rw [size_push', hsz]
  show wpAny _ _ _ _ _ { s with heap := ((s.heap.push (seqObj "list" #[] 0)).update s.heap.objs.size (Obj.mapSeq (· ++ vs.toArray))).push (seqObj "list" vs.toArray 0) }
  rw [hsz]
  generalize ((s.heap.push (seqObj "list" #[] 0)).update s.heap.objs.size (Obj.mapSeq (· ++ vs.toArray))).push (seqObj "list" vs.toArray 0) = h₁ at keep hoL hsz1 ⊢
  have hnone : ∀ b, s.heap.objs.size ≤ b → X.B.get? b = none := fun b hb => by
    cases eb : X.B.get? b with
    | none => rfl
    | some o => exact absurd (Heap.lt_size (R.base _ _ eb)) (Nat.not_lt.mpr hb)
  have R₁ : Rep X ρ σ h₁ := R.grow keep
  have g₁ : Go Nowhere σ ρ s.heap σ ρ h₁ := .ofGrow (by rw [hsz1, hD]; (first | lia | omega)) keep
  have sepA : ∀ {ρ' : Nat → Addr}, (∀ i, i < σ.length → ρ' i = ρ i) → ∀ b, s.heap.objs.size ≤ b → ∀ i, i < σ.length → ρ' i ≠ b := fun hx b hb i hi q => by
    have := R.lt hi
    rw [← hx i hi, q] at this
    exact absurd this (Nat.not_lt.mpr hb)
  refine wpAny_bind (wpAny_holding (wpAny_call_entry_kw slot_list_sort ⟨_, hoL, rfl⟩ entry_list_sort ?_ (ksk_l1 _ _)))
  show wpAny (model X.prog X.w) A.in1.in1 (Builtin.«list.sort» ⟨[.ref D], [(Str.ofString "key", .ref fa)]⟩) _ _ _
  rw [ksk_t1]
  unfold ksk_tree
  refine wpAny_bind (listItems_at hoL rfl ?_)
  refine wpAny_bind (listUpdate_at hoL rfl ?_ (by rw [List.size_toArray, sizeLine_eq]; (first | lia | omega)) (Nat.zero_le _))
  obtain ⟨R₂, g₂, ⟨e1, hD₂⟩, k₂⟩ := raw_turn (fun _ => (#[] : Array Value)) R₁ g₁ (by (first | lia | omega)) (sepA (fun _ _ => rfl) D (by (first | lia | omega))) (hnone D (by (first | lia | omega))) hoL
  have hz₂ : (h₁.update D (Obj.mapSeq fun _ => (#[] : Array Value))).objs.size = D + 1 := by rw [Heap.size_update]; exact hsz1
  generalize h₁.update D (Obj.mapSeq fun _ => (#[] : Array Value)) = h₂ at R₂ g₂ hD₂ k₂ hz₂ ⊢
  refine wpAny_bind (seqEpoch_at hD₂ rfl ?_)
  refine wpAny_bind (wpAny_newTuple ?_ (by show vs.length ≤ _; rw [sizeLine_eq]; (first | lia | omega)))
  refine wpAny_bind (wpAny_newList ?_ (Nat.zero_le _))
  refine wpAny_holding ?_
  obtain ⟨R₃, g₃⟩ := R₂.push (W := Nowhere) (seqObj "tuple" vs.toArray 0)
  obtain ⟨R₄, g₄⟩ := R₃.push (W := Nowhere) (seqObj "list" #[] 0)
  have G₄ := (g₂.trans g₃).trans g₄
  have hD₄ : ((h₂.push (seqObj "tuple" vs.toArray 0)).push (seqObj "list" #[] 0)).get? D = some (seqObj "list" #[] e1) := Heap.get?_push_of_some _ (Heap.get?_push_of_some _ hD₂)
  have hkS : ((h₂.push (seqObj "tuple" vs.toArray 0)).push (seqObj "list" #[] 0)).get? (h₂.push (seqObj "tuple" vs.toArray 0)).objs.size = some (seqObj "list" #[] 0) := Heap.get?_push_size _ rfl
  have hz₃ : (h₂.push (seqObj "tuple" vs.toArray 0)).objs.size = D + 2 := by rw [Heap.size_push, hz₂]
  show wpAny (model X.prog X.w) A.in1.in1 (ksk_rest D (.ref fa) false vs.toArray e1 (.ref (h₂.push (seqObj "tuple" vs.toArray 0)).objs.size)) _ _ { s with heap := (h₂.push (seqObj "tuple" vs.toArray 0)).push (seqObj "list" #[] 0) }
  rw [hz₃] at hkS ⊢
  generalize (h₂.push (seqObj "tuple" vs.toArray 0)).push (seqObj "list" #[] 0) = h₄ at R₄ G₄ hD₄ hkS ⊢
  have hsk : s.heap.objs.size ≤ D + 2 := by (first | lia | omega)
  have hsD : s.heap.objs.size ≤ D := by (first | lia | omega)
  have hBk := hnone (D + 2) hsk
  have hBD := hnone D hsD
  have hne : D ≠ D + 2 := by (first | lia | omega)
  unfold ksk_rest
  refine wpAny_bind (wpAny_rule ?_)
  first
    | rw [List.forIn_toArray]
    | (rw [← Array.forIn_toList]; simp only [List.toList_toArray])
    | rw [← Array.forIn_toList]
  refine wpAny_bind (ksk_fold (fun j s' => ∃ (ρ' : Nat → Addr) (h' : Heap) (tk : Nat) (keys : List Value) (c : Nat), s' = { s with heap := h', toks := tk } ∧ Rep X ρ' σ h' ∧ Go Nowhere σ ρ s.heap σ ρ' h' ∧ h'.get? D = some (seqObj "list" #[] e1) ∧ h'.get? (D + 2) = some (seqObj "list" keys.toArray c) ∧ IntsAre keys ((List.range j).map key))
    vs 0 _ ⟨ρ, h₄, s.toks, [], 0, rfl, R₄, G₄, hD₄, hkS, .nil⟩ (fun j a s' hj hI => ?_) fun s' hI => ?_)
  · rw [Nat.zero_add] at hI ⊢
    obtain ⟨ρ', h', tk, keys, c, rfl, R', g', hD', hk', hint⟩ := hI
    have hjl : j < xs.length := by rw [← hvl]; exact (List.getElem?_eq_some_iff.mp hj).1
    obtain ⟨a', ha', hax⟩ := hall.get (List.getElem?_eq_getElem hjl)
    rw [hj] at ha'; cases ha'
    have hkl : keys.length = j := by have := hint.length; simpa using this
    refine wpAny_bind (wpAny_attempt (lam_call (s := { s with heap := h', toks := tk }) (q := q) (fa := fa) (cv := cv) (ctv := ctv) (pm := pm) (xv := xs[j]) (kk := key j) cx (F.go R g') ((ArC.in2 (k := k + 1) ar).go g') R' ok one hco hgen (g'.still R .nowhere _ _ hfo ⟨(show Value.type "function" ≠ .type "list" by decide), (show ∀ T ∈ iterTypes, Value.type "function" ≠ .type T by decide), (fun _ _ q => nomatch q), (fun _ q => nomatch q), fun q => nomatch q⟩) (hcd.mono (g'.still R .nowhere)) (hax.go R g' .nowhere) (hw j _ (List.getElem?_eq_getElem hjl)) fun ρ'' h'' tk' t' R'' g'' => ?_))
    dsimp only
    have G'' := g'.trans g''
    have hD'' := raw_keep g'' (sepA g'.ext D hsD) hD'
    have hk'' := raw_keep g'' (sepA g'.ext (D + 2) hsk) hk'
    refine wpAny_bind (listUpdate_at hk'' rfl ?_ (by rw [List.size_toArray, sizeLine_eq]; (first | lia | omega)) (by simp only [Array.size_push, List.size_toArray]; rw [sizeLine_eq]; (first | lia | omega)))
    obtain ⟨R₅, g₅, ⟨c₅, hk₅⟩, k₅⟩ := raw_turn (fun ks => ks.push (Value.int (key j) t')) R'' G'' hsk (sepA G''.ext (D + 2) hsk) hBk hk''
    refine wpAny_pure ⟨rfl, ρ'', _, tk', keys ++ [Value.int (key j) t'], c₅, rfl, R₅, g₅, k₅ D _ hne hD'', by simpa using hk₅, ?_⟩
    rw [List.range_succ, List.map_append]
    exact ksk_snoc hint
  · rw [Nat.zero_add] at hI
    obtain ⟨ρ', h', tk, keys, c, rfl, R', g', hD', hk', hint⟩ := hI
    have hkl : keys.length = vs.length := by have := hint.length; simpa using this
    refine wpAny_bind (listItems_at hk' rfl ?_)
    unfold ksk_end
    simp only [Bool.false_eq_true, if_false]
    refine sort_run (X := X) (ks := keys) (vs := vs) (key := key) (T := fun st => ksk_tail D false e1 (.ref (D + 2)) st) hint (by (first | lia | omega)) fun p st hp1 hp2 hst hfl => ?_
    have hpl : p.length = vs.length := by have := hp1.length_eq; simpa using this
    unfold ksk_tail
    dsimp only
    refine wpAny_bind (listUpdate_at hk' rfl ?_ (by rw [List.size_toArray, sizeLine_eq]; (first | lia | omega)) (Nat.zero_le _))
    obtain ⟨R₅, g₅, _, k₅⟩ := raw_turn (fun _ => (#[] : Array Value)) R' g' hsk (sepA g'.ext (D + 2) hsk) hBk hk'
    have hD₅ := k₅ D _ hne hD'
    refine wpAny_bind (wpAny_letGo ?_)
    refine wpAny_bind (seqEpoch_at hD₅ rfl ?_)
    simp only [Bool.false_eq_true, if_false]
    refine wpAny_bind (listUpdate_at hD₅ rfl ?_ (Nat.zero_le _) (by rw [hst, List.size_toArray, List.length_map, hpl, sizeLine_eq]; (first | lia | omega)))
    obtain ⟨R₆, g₆, ⟨c₆, hD₆⟩, _⟩ := raw_turn (fun _ => (arrOf st).map (·.2)) R₅ g₅ hsD (sepA g₅.ext D hsD) hBD hD₅
    rw [hfl]
    simp only [bne_self_eq_false, Bool.false_eq_true, if_false]
    refine wpAny_pure ⟨_, rfl, wpAny_pure ⟨_, rfl, ?_⟩⟩
    rw [hst] at hD₆ R₆ g₆ ⊢
    have hp3 : ∀ i ∈ p, i < xs.length := fun i hi => by rw [← hvl]; exact List.mem_range.mp (hp1.mem_iff.mp hi)
    obtain ⟨ρa, Ra, hρa, hDa⟩ := R₆.adopt hD₆ (hall_pick (hall.go R g₆ .nowhere) p hp3) (sepA g₆.ext D hsD) hBD
    have hnew : ∀ i, σ.length ≤ i → i < (σ ++ [Cell.lst (p.map fun i => xs.getD i (.d .none))]).length → s.heap.objs.size ≤ ρa i := fun i h1 h2 => by
      have hi : i = σ.length := by simp at h2; (first | lia | omega)
      rw [hi, hDa]; exact hsD
    have fin := h p ρa _ tk (by rw [← hvl]; exact hp1) hp2 Ra { size := g₆.size, keep := g₆.keep, dicts := g₆.dicts, len := by simp, ext := fun i hi => (hρa i hi).trans (g₆.ext i hi), new := hnew }
    rw [hDa] at fin
    exact fin
end
end Mine

set_option Elab.async false
set_option autoImplicit false
set_option linter.unusedVariables false
namespace Mine
open PySem PySem.Spec PySem.Calls PyProof.Rows PySem.W
noncomputable def oneArgB (params : Arguments) (x : Str) : Bool := params.posonlyargs.isEmpty && (params.args.map (·.arg) == [x]) && params.vararg.isNone && params.kwonlyargs.isEmpty && params.kwarg.isNone && params.defaults.isEmpty && params.kw_defaults.isEmpty
theorem oneArg_of {params : Arguments} {x : Str} (h : oneArgB params x = true) : OneArg params x := by
  unfold oneArgB at h
  simp only [Bool.and_eq_true, List.isEmpty_iff, beq_iff_eq, Option.isNone_iff_eq_none] at h
  obtain ⟨⟨⟨⟨⟨⟨h1, h2⟩, h3⟩, h4⟩, h5⟩, h6⟩, h7⟩ := h
  exact ⟨h1, h2, h3, h4, h5⟩
theorem noDef_of {params : Arguments} {x : Str} {env : Env} (h : oneArgB params x = true) : defaultsOf params env = ([], []) := by
  obtain ⟨a, b, c, d, e, f, g⟩ := params
  unfold oneArgB at h
  simp only [Bool.and_eq_true, List.isEmpty_iff, beq_iff_eq, Option.isNone_iff_eq_none] at h
  obtain ⟨⟨⟨⟨⟨⟨h1, h2⟩, h3⟩, h4⟩, h5⟩, h6⟩, h7⟩ := h
  subst h6
  subst h7
  rfl
noncomputable def plainScope (scope : Scope) : Bool := !scope.isCoroutine && !scope.isGenerator
section
variable {X : Cx} {k : Nat} {env : Env} {sc : Kinds} {m : Loc} {σ : Store} {K : OutE → Prop} {P : Addr} {q : Str} {scope : Scope} {x : Str} {params : Arguments} {body e : Expr} {p pn pl pk : Pos} {t : Nat}
theorem zqt (cx : CxOk X) (mk : Maker X env P q) (hs : X.val ("sorted" : Str) = some (.builtin "sorted")) (h1 : isGlobB sc ("sorted" : Str) = true) (h2 : compOkB sc scope x = true) (h3 : oneArgB params x = true) (h4 : plainScope scope = true) (h5 : noStar e = true)
    (hw : SE X (k + 2) env sc (eval e env) m σ (thenE fun v σ => ∃ (l : Nat) (xs : List V) (key : Nat → Int), v = .ref l ∧ itemsAt σ l = some xs ∧ xs.length < 64 ∧ σ[t]? = some (.tab P q) ∧
      (∀ j xv, xs[j]? = some xv → ∀ env', SE X k env' (kindsOf scope.names) (eval body env') (upd (compLoc scope.names m) x xv) σ (fun o => o = .val (.d (.int (key j))) σ)) ∧
      ∀ p : List Nat, p.Perm (List.range xs.length) → p.Pairwise (Lx key) → K (.val (.ref σ.length) (σ ++ [.lst (p.map fun i => xs.getD i (.d .none))])))) :
    SE X (k + 2) env sc (eval (.Call (.Name ("sorted" : Str) pn) [e] [⟨some ("key" : Str), .Lambda params body scope pl, pk⟩] p) env) m σ K := by
  intro A s ρ Q E ar R F ok er
  have hsc : scope.isCoroutine = false ∧ scope.isGenerator = false := by
    unfold plainScope at h4
    simpa using h4
  show wpAny _ A (do callWith p (← eval (.Name ("sorted" : Str) pn) env) [] (backTo p (starEach [e] env)) (backToKw p (keywordEach [⟨some ("key" : Str), .Lambda params body scope pl, pk⟩] env))) Q E s
  refine wpAny_bind (glob_sound cx R F (isGlob h1) hs ?_)
  have hst := starEach_plain (env := env) (rest := []) h5
  refine callWith_kw (id := "sorted") ?_ ?_ ?_
  · refine wpAny_items_cons ?_ hst
    refine SE.andThen hw ar R F er fun v σ₁ ρ₁ a h₁ tk hf R₁ g₁ hv ar₁ F₁ => ?_
    refine wpAny_items_nil ?_
    obtain ⟨l, xs, key, rfl, hl, h64, ht, hbody, hK⟩ := hf
    obtain ⟨_, rfl⟩ := hv.ref_inv
    refine kws_cons (lam_sound (s := { s with heap := h₁, toks := tk }) cx mk R₁ F₁ ht (compOk_of h2) (noDef_of h3) fun fa h₂ tk₂ cv ctv pm R₂ g₂ hco hfo => kws_nil ?_)
    refine sorted_sound (s := { s with heap := h₂, toks := tk₂ }) (k := k) (key := key) cx (F₁.go R₁ g₂) (ar₁.go g₂).c R₂ (compOk_of h2) (oneArg_of h3) hsc.1 hsc.2 hfo hco hl h64 hbody fun p' ρ' h' tk' hp1 hp2 R' g' => ?_
    exact ok _ _ _ _ _ _ (hK p' hp1 hp2) R' ((g₁.trans g₂).trans g') (.ref (by simp))
  · rw [hst]; rfl
  · exact args_noStar [e] (by simp [h5])
end
end Mine

set_option Elab.async false
set_option autoImplicit false
set_option linter.unusedVariables false
namespace Mine
open PySem PySem.Spec PySem.Calls PyProof.Rows
noncomputable def rankQ (f : Str) : Str := (f ++ (".<locals>." : Str)) ++ ("<lambda>" : Str)
noncomputable def rankedT (P : Addr) : Contract := fun vs σ K => ∃ (t i : Nat) (ws : List Wish) (price : Int) (b : Bool), vs = [.ref i, .d (.int price), .d (.str (sideS b))] ∧ σ[t]? = some (.tab P (rankQ "ranked")) ∧ itemsAt σ i = some (ws.map Wish.v) ∧ ws.length ≤ 1000000 ∧ (someF ws price b).length < 64 ∧
  ∀ r, Ranks ws price b r → K (.val (.ref σ.length) (σ ++ [.lst (r.map natV)]))
theorem some_items {ws : List Wish} {price : Int} {b : Bool} : (List.range ws.length).filterMap (fun (k : Nat) => if ((wAt ws k).buy == b) && eligF price (wAt ws k) then some (natV k) else none) = (someF ws price b).map natV :=
  filterMap_if (fun k => ((wAt ws k).buy == b) && eligF price (wAt ws k)) natV _
theorem some_at {ws : List Wish} {price : Int} {b : Bool} {j : Nat} {xv : V} (h : ((someF ws price b).map natV)[j]? = some xv) : ∃ k, (someF ws price b)[j]? = some k ∧ xv = natV k ∧ k < ws.length := by
  rw [List.getElem?_map] at h
  obtain ⟨k, hk, e⟩ := Option.map_eq_some_iff.mp h
  exact ⟨k, hk, e.symm, (mem_some.mp (List.mem_of_getElem? hk)).1⟩
theorem ranks_of {ws : List Wish} {price : Int} {b : Bool} {p : List Nat} (hp : p.Perm (List.range ((someF ws price b).map natV).length)) (hs : p.Pairwise (Lx fun j => keyF ws b ((someF ws price b).getD j 0))) :
    Ranks ws price b (p.map fun j => (someF ws price b).getD j 0) ∧ (p.map fun i => ((someF ws price b).map natV).getD i (.d .none)) = (p.map fun j => (someF ws price b).getD j 0).map natV := by
  rw [List.length_map] at hp
  have hlt : ∀ j ∈ p, j < (someF ws price b).length := fun j hj => List.mem_range.mp (hp.mem_iff.mp hj)
  have hup : (someF ws price b).Pairwise (· < ·) := List.Pairwise.filter _ List.pairwise_lt_range
  refine ⟨⟨?_, ?_⟩, ?_⟩
  · have e : (List.range (someF ws price b).length).map (fun j => (someF ws price b).getD j 0) = someF ws price b := by
      apply List.ext_getElem?
      intro j
      by_cases hj : j < (someF ws price b).length
      · rw [List.getElem?_map, List.getElem?_range hj, List.getElem?_eq_getElem hj]
        simp [List.getD_eq_getElem?_getD, hj]
      · rw [List.getElem?_eq_none (by simp; (first | lia | omega)), List.getElem?_eq_none (by (first | lia | omega))]
    have := hp.map fun j => (someF ws price b).getD j 0
    rw [e] at this
    exact this
  · rw [List.pairwise_map]
    refine (List.Pairwise.and_mem.mp hs).imp fun {i j} ⟨hi, hj, h⟩ => ?_
    rcases h with h | ⟨h1, h2⟩
    · exact .inl h
    · refine .inr ⟨h1, ?_⟩
      have hi' := hlt i hi
      have hj' := hlt j hj
      have := List.pairwise_iff_getElem.mp hup i j hi' hj' h2
      simpa [List.getD_eq_getElem?_getD, hi', hj'] using this
  · rw [List.map_map]
    refine List.map_congr_left fun j hj => ?_
    have := hlt j hj
    simp [List.getD_eq_getElem?_getD, this]
noncomputable def pieces_atT (P : Addr) : Contract := fun vs σ K => ∃ (t i : Nat) (ws : List Wish) (v : V), vs = [.ref i, v] ∧ σ[t]? = some (.tab P (rankQ "ranked")) ∧ itemsAt σ i = some (ws.map Wish.v) ∧ ws.length ≤ 900000 ∧ (∀ w ∈ ws, w.ok) ∧ (∀ p b, (someF ws p b).length < 64) ∧
  (∃ p : Int, v = .d (.int p) ∧ 0 ≤ p ∧ p ≤ 1000000000 ∧ K (.val (.ref σ.length) (σ ++ [.lst ((piecesF ws p).map vInt)])))
theorem serve_cons {amt : Nat → Int} {D : Int} {k : Nat} {r : List Nat} {f : List Int} : serve amt D (k :: r) f = serve amt (D - min D (amt k)) r (f.set k (min D (amt k))) := rfl
theorem serve_nil {amt : Nat → Int} {D : Int} {f : List Int} : serve amt D [] f = f := rfl
theorem zeros (ws : List Wish) : ws.filterMap (fun _ => some (V.d (.int 0))) = (List.replicate ws.length (0 : Int)).map vInt := by
  rw [filterMap_some]
  induction ws with
  | nil => rfl
  | cons w r ih => rw [List.map_cons, ih]; rfl
theorem some_count {ws : List Wish} {p : Int} {b : Bool} : (someF ws p b).length ≤ (ws.filter fun w => w.buy == b).length := by
  have e : (List.range ws.length).map (wAt ws) = ws := by
    apply List.ext_getElem (by simp)
    intro j h1 h2
    rw [List.getElem_map, List.getElem_range, wAt_eq h2]
  have h1 : (someF ws p b).length ≤ ((List.range ws.length).filter fun k => (wAt ws k).buy == b).length := by
    unfold someF
    rw [← List.countP_eq_length_filter, ← List.countP_eq_length_filter]
    refine List.countP_mono_left fun x _ h => ?_
    rw [Bool.and_eq_true] at h
    exact h.1
  have h2 : (ws.filter fun w => w.buy == b).length = ((List.range ws.length).filter fun k => (wAt ws k).buy == b).length := by
    conv => lhs; rw [← e]
    rw [List.filter_map, List.length_map]; rfl
  (first | lia | omega)
theorem alt_count {Q : Nat → Bool} (hQ : ∀ k, Q (k + 1) = !Q k) : ∀ n, 2 * ((List.range n).filter Q).length + (if Q n then 1 else 0) = n + (if Q 0 then 1 else 0)
  | 0 => by simp
  | n + 1 => by
    have := alt_count hQ n
    rw [List.range_succ, List.filter_append, List.length_append, hQ n]
    by_cases c : Q n = true
    · rw [List.filter_cons_of_pos c]; simp [c] at this ⊢; (first | lia | omega)
    · rw [List.filter_cons_of_neg c]; simp [c] at this ⊢; (first | lia | omega)
theorem some_few {ns : List Int} {first few : Nat} (h63 : ns.length ≤ 63) (hf : few ≤ 38) (p : Int) (b : Bool) : (someF (wishesF ns first few) p b).length < 64 := by
  have h0 := some_count (ws := wishesF ns first few) (p := p) (b := b)
  have h1 : ((wishesF ns first few).filter fun w => w.buy == b).length ≤ few + 25 := by
    unfold wishesF
    rw [List.filter_append, List.length_append]
    have a1 : ((((ns.drop first).take (manyF ns few)).map wishF).filter fun w => w.buy == b).length ≤ few := by
      refine Nat.le_trans (List.length_filter_le _ _) ?_
      unfold manyF
      rw [if_neg (by (first | lia | omega))]
      simp; (first | lia | omega)
    have a2 : ((extraF ns).filter fun w => w.buy == b).length ≤ 25 := by
      unfold extraF
      split
      · rw [List.filter_map, List.length_map]
        have := alt_count (Q := (fun w : Wish => w.buy == b) ∘ fun k : Nat => wishF (cellAt ns 1 + 8191 * (k : Nat))) (fun k => by
          show ((!decide ((cellAt ns 1 + 8191 * ((k + 1 : Nat) : Int)) % 2 = 1)) == b) = !((!decide ((cellAt ns 1 + 8191 * (k : Int)) % 2 = 1)) == b)
          by_cases c : (cellAt ns 1 + 8191 * (k : Int)) % 2 = 1
          · rw [decide_eq_true c, decide_eq_false (by (first | lia | omega))]; cases b <;> rfl
          · rw [decide_eq_false c, decide_eq_true (by (first | lia | omega))]; cases b <;> rfl) (20 + cellAt ns 1 % 30).toNat
        generalize ((List.range (20 + cellAt ns 1 % 30).toNat).filter _).length = L at *
        have : (20 + cellAt ns 1 % 30).toNat ≤ 49 := by (first | lia | omega)
        split at * <;> split at * <;> (first | lia | omega)
      · simp
    (first | lia | omega)
  (first | lia | omega)
noncomputable def goalLT (P : Addr) : Contract := fun vs σ K => ∃ (i t : Nat) (ns : List Int), vs = [.ref i] ∧ σ[t]? = some (.tab P (rankQ "ranked")) ∧ itemsAt σ i = some (ns.map vInt) ∧ ns.length ≤ 63 ∧ K (.val (.d (.bool true)) σ)
end Mine

set_option Elab.async false
set_option autoImplicit false
set_option linter.unusedVariables false
namespace Mine
open PySem PySem.Spec PySem.Calls PyProof.Rows PySem.W
section
variable {p prog : Program} {w : World} {bd : Addr → Prop} {loose : List Str} {mean : ExcName → Option Value} {mg mb : Str → Option Value} {h : Heap} {c P : Addr}
structure TabOf (mg : Str → Option Value) (h : Heap) (f : Str) (c P : Addr) : Prop where
  at_ : ∃ a o fd, mg f = some (.ref a) ∧ h.get? a = some o ∧ o.data = .func fd ∧ fd.code = .ref c
  tabs : TabsAt [(c, P)] h
theorem tab_of_top (T : Top p loose mean mg mb h) {f : Str} (j : Nat) (hr : ((recsOf p)[j]?).map (fun r => r.name) = some f) : ∃ c P, TabOf mg h f c P := by
  cases e : (recsOf p)[j]? with
  | none => rw [e] at hr; cases hr
  | some r =>
    rw [e] at hr
    cases hr
    obtain ⟨a, o, fd, c, P, h1, h2, h3, h4, h5, h6⟩ := T.tab _ (List.mem_of_getElem? e)
    refine ⟨c, P, ⟨a, o, fd, h1, h2, h3, h4⟩, fun q hq => ?_⟩
    rw [List.mem_singleton.mp hq]
    exact ⟨CodeHd.of h5 h6, h6.2⟩
variable {f : Str}
theorem TabOf.get (t : TabOf mg h f c P) {b : Addr} {o : Obj} (e : h.get? b = some o) (hn : o ≠ tabObj #[]) : (hideAll h [P]).get? b = some o := ghost_get t.tabs e hn
theorem cx_ghost (t : TabOf mg h f c P) (T : Top p loose mean mg mb h) : CxOk ⟨prog, w, hideAll h [P], mg, mb, bd⟩ := cx_of_top (ghost_top t.tabs T)
theorem rec_ghost (t : TabOf mg h f c P) {cd : Value} {q : Str} (x : h.CodeRec cd q) : (hideAll h [P]).CodeRec cd q := by
  obtain ⟨c', o, vs, tk, e, g, d, k⟩ := x
  exact ⟨c', o, vs, tk, e, t.get g (fun q => by rw [q] at d; cases d; cases k), d, k⟩
theorem isFn_ghost (t : TabOf mg h f c P) (T : Top p loose mean mg mb h) {f' : Str} {params : Arguments} {body : List Stmt} {scope : Scope} (j : Nat)
    (hr : ((recsOf p)[j]?).map (fun r => (r.name, r.params, r.body, r.scope)) = some (f', params, body, scope)) (h1 : params.posonlyargs = []) (h2 : params.vararg = none) (h3 : params.kwonlyargs = []) (h4 : params.kwarg = none) :
    IsFn ⟨prog, w, hideAll h [P], mg, mb, bd⟩ f' (params.args.map (·.arg)) body scope := by
  obtain ⟨⟨a, o, pm, code, doc, params', q1, q2, q3, q4, r1, r2, r3, r4, r5⟩⟩ := isFn_of_top (prog := prog) (w := w) (bd := bd) T j hr h1 h2 h3 h4
  exact ⟨⟨a, o, pm, code, doc, params', q1, t.get q2 (fun q => by rw [q] at q3; cases q3), q3, rec_ghost t q4, r1, r2, r3, r4, r5⟩⟩
theorem fnP_ghost (t : TabOf mg h f c P) (T : Top p loose mean mg mb h) {params : Arguments} {body : List Stmt} {scope : Scope} {q : Str} (j : Nat)
    (hr : ((recsOf p)[j]?).map (fun r => (r.name, r.params, r.body, r.scope)) = some (f, params, body, scope)) (h1 : params.posonlyargs = []) (h2 : params.vararg = none) (h3 : params.kwonlyargs = []) (h4 : params.kwarg = none) (hq : (f ++ (".<locals>." : Str)) ++ ("<lambda>" : Str) = q) :
    FnP ⟨prog, w, hideAll h [P], mg, mb, bd⟩ f (params.args.map (·.arg)) body scope (fun env => Maker ⟨prog, w, hideAll h [P], mg, mb, bd⟩ env P q) := by
  obtain ⟨⟨a, o, pm, code, doc, params', q1, q2, q3, q4, r1, r2, r3, r4, r5⟩⟩ := isFn_of_top (prog := prog) (w := w) (bd := bd) T j hr h1 h2 h3 h4
  obtain ⟨a', o', fd, g1, g2, g3, g4⟩ := t.at_
  have q1 : mg f = some (.ref a) := q1
  rw [q1] at g1; cases g1
  have q2 : h.get? a = some o := q2
  rw [q2] at g2; cases g2
  rw [q3] at g3; cases g3
  have hP := (t.tabs _ (List.mem_singleton.mpr rfl)).2
  obtain ⟨ob, es, ep, b1, b2, _⟩ := T.g
  obtain ⟨bm, om, m1, m2, m3, m4, m5, m6⟩ := T.bmain
  refine ⟨a, o, pm, code, doc, params', q1, t.get q2 (fun q => by rw [q] at q3; cases q3), q3, rec_ghost t q4, r1, r2, r3, r4, r5, fun L => ⟨⟨c, g4, (ghost_code t.tabs).1⟩, hq, fun e => ?_, bm, om, m1, m2, fun e => ?_, fun e => ?_, t.get m3 (fun q => by rw [q] at m4; cases m4), m4, m5, m6⟩⟩
  · rw [e, hP] at b1; cases b1; cases b2
  · rw [e, b1] at m3; cases m3; rw [b2] at m6; cases m6
  · rw [e, hP] at m3; cases m3; cases m4
theorem law_endL {X : Cx} {k : Nat} {fa l : Addr} {ns : List Int} {s : Shared} {Ps : Params} {Q E : Value → Shared → Prop} (t : TabOf X.mg s.heap f c P) (hv : ValidF X k ("law" : Str) (goalLT P)) (hk : k < 400) (hX : ∀ b, ¬ X.bad b) (hmg : X.mg ("law" : Str) = some (.ref fa)) (hB : X.B = hideAll s.heap [P])
    (hw : Well Ps s.heap (.ref l) (ofPy (.list (ns.map PyData.int)))) (hn : ¬ ((63 : Nat) : Int) < (ns.length : Int)) (hQ : ∀ h' tk, OldK s.heap h' → Q (.bool true) { s with heap := h', toks := tk }) :
    wpAny (model X.prog X.w) callerA (call (.ref fa) [.ref l]) Q E s := by
  obtain ⟨fv, h1, _, h3⟩ := hv
  have hf : fv = .ref fa := by
    unfold Cx.val at h1
    rw [hmg] at h1
    exact (Option.some.inj h1).symm
  subst hf
  have hP := (t.tabs _ (List.mem_singleton.mpr rfl)).2
  have hCH := (t.tabs _ (List.mem_singleton.mpr rfl)).1
  dsimp only at hP hCH
  have hw' : Well Ps s.heap (.ref l) (.list (ns.map WData.int)) := by
    have e : ofPy (.list (ns.map PyData.int)) = .list (ns.map WData.int) := by simp only [ofPy, ofPys_ints]
    rw [← e]; exact hw
  cases hw' with
  | @list _ vs _ ho hall =>
    have hlP : l ≠ P := fun e => by rw [e, hP] at ho; cases ho
    have hH : HasAll X 2 (fun i => if i = 0 then l else P) s.heap (ns.map vInt) vs := has_of_well hall
    refine h3 [.ref 0] [.rol (ns.map vInt), .tab P (rankQ "ranked")] (fun r => r = .val (.d (.bool true)) [.rol (ns.map vInt), .tab P (rankQ "ranked")]) ⟨0, 1, ns, rfl, rfl, rfl, by (first | lia | omega), rfl⟩ callerA s (fun i => if i = 0 then l else P) [.ref l] Q E ?_ ?_ ?_ ?_ ?_
    · exact ⟨fun _ => rfl, by show 301 + k < 1000; (first | lia | omega), by show 4 + 20 * k + 200 < 9900; (first | lia | omega), [], rfl, fun e he => by cases he⟩
    · refine ⟨fun b o e => by rw [hB] at e; exact of_hideAll _ e, fun i c hc => ?_, fun i c hc ho' => ?_, fun i j hi hj e => ?_, fun b q => (hX b q).elim⟩
      · match i, hc with
        | 0, hc => cases hc; exact ⟨_, vs, ho, ⟨_, rfl⟩, hH⟩
        | 1, hc => cases hc; exact ⟨_, [], hP, ⟨rfl, #[], rfl, trivial, fun pos cv q => by cases q⟩, .nil⟩
        | i + 2, hc => simp at hc
      · match i, hc with
        | 0, hc => cases hc; cases ho'
        | 1, hc => cases hc; rw [hB]; exact hideAll_none _ (List.mem_singleton.mpr rfl)
        | i + 2, hc => simp at hc
      · have hi : i < 2 := hi
        have hj : j < 2 := hj
        match i, j, hi, hj, e with
        | 0, 0, _, _, _ => rfl
        | 1, 1, _, _, _ => rfl
        | 0, 1, _, _, e => exact (hlP e).elim
        | 1, 0, _, _, e => exact (hlP e.symm).elim
    · exact .cons (.ref (by simp)) .nil
    · intro v σ' ρ' a h' tk e R g hv
      cases e
      have : a = .bool true := by cases hv.d_inv; rfl
      subst this
      obtain ⟨oP, its, e1, ⟨e2, ps, e3, _⟩, _⟩ := R.cell 1 _ rfl
      rw [e2, e3] at e1
      have keep : ∀ b o, b ≠ P → s.heap.get? b = some o → h'.get? b = some o := fun b o hb e => R.base b o (by rw [hB]; exact hideAll_get _ e (fun q => hb (List.mem_singleton.mp q)))
      refine hQ h' tk ⟨fun b o e => ?_, fun b o e => ?_⟩
      · by_cases hb : b = P
        · subst hb
          rw [hP] at e; cases e
          exact .inr (.inl ⟨(hCH.tab hP).isCodeTable, rfl, #[], ps, rfl, by rw [Array.empty_append]; exact e1⟩)
        · exact .inl (keep b o hb e)
      · by_cases hb : b = P
        · subst hb; exact ⟨_, e1⟩
        · exact ⟨o, keep b o hb e⟩
    · intro c σ' ρ' e h' tk q
      cases q
end
end Mine

set_option Elab.async false
set_option autoImplicit false
set_option linter.unusedVariables false
set_option linter.unusedSimpArgs false
set_option maxRecDepth 100000
set_option Elab.async false
local macro_rules | `(tactic| walk_at "mine_look") => `(tactic| (first | exact Mine.upd_eq | exact Mine.look_eq | assumption | refine Mine.upd_ne (by decide +kernel) ?_ | refine Mine.look_ne (by decide +kernel) ?_ | refine Mine.comp_free (by decide +kernel) ?_))
local macro_rules | `(tactic| walk_at "mine_a") => do
  let as ← ("zqcg zqbr zqq zqbe zqab zql zqc zqbo zqby zqx zqs zqv zqas zqbm zqan zqax zqbx zqca zqac zqai zqal zqci zqh zqbd zqcd zqaz zqaa zqav zqbh zqag zqbl zqbg zqao zqbq zqay zqau zqbj zqbv zqbs zqbi zqar zqah zqaq zqbk zqcc zqae zqcb".splitOn " ").toArray.mapM fun n => `(tactic| refine $(Lean.mkIdent (.str (.str .anonymous "Mine") n)):ident ?_)
  `(tactic| with_reducible first $[| $as:tactic]*)
local macro_rules | `(tactic| walk_at "mine_b") => do
  let as ← ("zqbb zqbp zqbn zqap zqbf zqad zqbu zqbt".splitOn " ").toArray.mapM fun n => `(tactic| apply $(Lean.mkIdent (.str (.str .anonymous "Mine") n)):ident)
  `(tactic| ((with_reducible first $[| $as:tactic]*); (focus exact rfl)))
local macro_rules | `(tactic| walk_at "mine_c") => do
  let as ← ("zqr:ab zqcj:acba zqat:acb zqba:caaccab zqaw:ad zqaf:cacb zqch:bbbec zqp:cba zqbc:cac zqbw:cac zqak:ff zqaj:ff zqce:e zqm:e zqo:g zqg:h zqd:h zqe:h zqf:h zqcf:eb".splitOn " ").toArray.mapM fun n => do
    let p := n.splitOn ":"
    let ts ← (p.getD 1 "").toList.toArray.mapM fun c => match c with
      | 'a' => `(tactic| (focus decide +kernel))
      | 'b' => `(tactic| (focus exact rfl))
      | 'c' => `(tactic| (focus assumption))
      | 'd' => `(tactic| (focus ((repeat walk_at "mine_look"); done)))
      | 'e' => `(tactic| (focus decide))
      | 'f' => `(tactic| (focus (first | assumption | decide +kernel)))
      | 'g' => `(tactic| (focus (first | exact .of_right (by decide) | exact .of_left (by decide))))
      | _ => `(tactic| (focus (first | exact rfl | assumption | decide +kernel)))
    `(tactic| ((with_reducible apply $(Lean.mkIdent (.str (.str .anonymous "Mine") (p.getD 0 ""))):ident); $[$ts];*))
  `(tactic| first $[| $as:tactic]*)
local macro_rules | `(tactic| walk_at "mine_step") => `(tactic| first | walk_at "mine_a" | walk_at "mine_b" | walk_at "mine_c")
namespace Mine
open PySem PySem.Spec PySem.Calls PyProof.Rows
def prg : Program := PySem.Challenge.rw_uf040040_13.row.toRowW.1

set_option Elab.async false
set_option autoImplicit false
set_option linter.unusedVariables false
set_option linter.unusedSimpArgs false
set_option maxRecDepth 100000
open PySem PySem.Spec PySem.Calls PyProof.Rows
set_option maxHeartbeats 4000000 in
theorem v_num {fam : List Str} {X : Cx} {k : Nat} (cx : CxOk X) (calm : 100 ≤ k) (zipk : X.val ("zip" : Str) = some (.type "zip")) (h_isi : ValidF X k ("isinstance" : Str) (isiT fam)) (k_int : Known X ("int" : Str)) (k_bool : Known X ("bool" : Str)) {nm : Str} {ps : Arguments} {body : List Stmt} {dl : List Expr} {re : Option Expr} {tp} {sc : Scope} {tc} {q : Str} {pos : Pos}
    (hs : prg.main.body[7]? = some (.FunctionDef nm ps body dl re tp sc tc q pos)) (hf : IsFn X ("is_number" : Str) (ps.args.map (·.arg)) body sc) : ValidF X (k + 1) ("is_number" : Str) numT := by
  cases hs
  have hf : IsFn X ("is_number" : Str) ["thing"] _ _ := hf
  refine valid_fn cx hf (by decide +kernel) ?_
  rintro _ σ K ⟨v, r, rfl, hr, hK⟩
  obtain ⟨b, c, hb, hc, rfl⟩ := numW_inv hr
  refine ⟨rfl, fun env => ?_⟩
  dsimp only
  (repeat walk_at "mine_step")
  refine isi_of hb ?_
  (repeat walk_at "mine_step")
  refine zqb (fun h => ?_) (fun h => ?_)
  · (repeat walk_at "mine_step")
    refine isi_of hc ?_
    (repeat walk_at "mine_step")
    subst h
    exact ret_data .refl hK
  · (repeat walk_at "mine_step")
    subst h
    exact ret_data .refl hK
set_option maxHeartbeats 4000000 in
theorem v_wanted {fam : List Str} {X : Cx} {k : Nat} (cx : CxOk X) (calm : 100 ≤ k) (zipk : X.val ("zip" : Str) = some (.type "zip")) (h_sum : ValidF X k ("sum" : Str) sumT) {nm : Str} {ps : Arguments} {body : List Stmt} {dl : List Expr} {re : Option Expr} {tp} {sc : Scope} {tc} {q : Str} {pos : Pos}
    (hs : prg.main.body[8]? = some (.FunctionDef nm ps body dl re tp sc tc q pos)) (hf : IsFn X ("wanted" : Str) (ps.args.map (·.arg)) body sc) : ValidF X (k + 1) ("wanted" : Str) wantedT := by
  cases hs
  have hf : IsFn X ("wanted" : Str) ["wishes", "price"] _ _ := hf
  refine valid_fn cx hf (by decide +kernel) ?_
  rintro _ σ K ⟨i, ws, price, rfl, h1, h2, hK⟩
  refine ⟨rfl, fun env => ?_⟩
  dsimp only
  (repeat walk_at "mine_step")
  refine comp_src ws Wish.v (fun w => if w.buy && decide (price ≤ w.lim) then some (vInt w.amt) else none) (src_ref h1) (by simpa using h2) ?_ ?_
  · intro w _ env' Y N hY hN
    have := side_ok w
    unfold Wish.v
    dsimp only
    (repeat walk_at "mine_step")
    rw [buy_beq]
    refine zqb (fun hb => ?_) (fun hb => ?_)
    · (repeat walk_at "mine_step")
      refine zqb (fun hp => ?_) (fun hp => ?_)
      · (repeat walk_at "mine_step")
        exact hY _ (by rw [hb, hp]; rfl)
      · (repeat walk_at "mine_step")
        exact hN (by rw [hb, hp]; rfl)
    · (repeat walk_at "mine_step")
      exact hN (by rw [hb]; rfl)
  · (repeat walk_at "mine_step")
    refine ⟨_, itemsAt_new.trans (congrArg some ((filterMap_if ..).trans (map_amt _))), ?_⟩
    (repeat walk_at "mine_step")
    exact ret_data Grown.refl.snoc hK
set_option maxHeartbeats 4000000 in
theorem v_offered {fam : List Str} {X : Cx} {k : Nat} (cx : CxOk X) (calm : 100 ≤ k) (zipk : X.val ("zip" : Str) = some (.type "zip")) (h_sum : ValidF X k ("sum" : Str) sumT) {nm : Str} {ps : Arguments} {body : List Stmt} {dl : List Expr} {re : Option Expr} {tp} {sc : Scope} {tc} {q : Str} {pos : Pos}
    (hs : prg.main.body[9]? = some (.FunctionDef nm ps body dl re tp sc tc q pos)) (hf : IsFn X ("offered" : Str) (ps.args.map (·.arg)) body sc) : ValidF X (k + 1) ("offered" : Str) offeredT := by
  cases hs
  have hf : IsFn X ("offered" : Str) ["wishes", "price"] _ _ := hf
  refine valid_fn cx hf (by decide +kernel) ?_
  rintro _ σ K ⟨i, ws, price, rfl, h1, h2, hK⟩
  refine ⟨rfl, fun env => ?_⟩
  dsimp only
  (repeat walk_at "mine_step")
  refine comp_src ws Wish.v (fun w => if !w.buy && decide (w.lim ≤ price) then some (vInt w.amt) else none) (src_ref h1) (by simpa using h2) ?_ ?_
  · intro w _ env' Y N hY hN
    have := side_ok w
    unfold Wish.v
    dsimp only
    (repeat walk_at "mine_step")
    rw [sell_beq]
    refine zqb (fun hb => ?_) (fun hb => ?_)
    · (repeat walk_at "mine_step")
      refine zqb (fun hp => ?_) (fun hp => ?_)
      · (repeat walk_at "mine_step")
        exact hY _ (by rw [hb, hp]; rfl)
      · (repeat walk_at "mine_step")
        exact hN (by rw [hb, hp]; rfl)
    · (repeat walk_at "mine_step")
      exact hN (by rw [hb]; rfl)
  · (repeat walk_at "mine_step")
    refine ⟨_, itemsAt_new.trans (congrArg some ((filterMap_if ..).trans (map_amt _))), ?_⟩
    (repeat walk_at "mine_step")
    exact ret_data Grown.refl.snoc hK
set_option maxHeartbeats 4000000 in
theorem v_need_price {fam : List Str} {X : Cx} {k : Nat} (cx : CxOk X) (calm : 100 ≤ k) (zipk : X.val ("zip" : Str) = some (.type "zip")) (h_num : ValidF X k ("is_number" : Str) numT) (d_TOP : ConstIs X ("TOP" : Str) (.int 1000000000)) {nm : Str} {ps : Arguments} {body : List Stmt} {dl : List Expr} {re : Option Expr} {tp} {sc : Scope} {tc} {q : Str} {pos : Pos}
    (hs : prg.main.body[11]? = some (.FunctionDef nm ps body dl re tp sc tc q pos)) (hf : IsFn X ("need_price" : Str) (ps.args.map (·.arg)) body sc) : ValidF X (k + 1) ("need_price" : Str) need_priceT := by
  cases hs
  have hf : IsFn X ("need_price" : Str) ["thing"] _ _ := hf
  refine valid_fn cx hf (by decide +kernel) ?_
  rintro _ σ K ⟨v, rfl, p, rfl, p0, p1, hK⟩
  refine ⟨rfl, fun env => ?_⟩
  dsimp only
  (repeat walk_at "mine_step")
  refine ⟨_, true, rfl, num_int, ?_⟩
  (repeat walk_at "mine_step")
  first | refine zqg (decide_eq_true p0) ?_ | refine zqe (decide_eq_true p0) ?_ | refine zqd (ndt p0) ?_ | refine zqf (ndt p0) ?_ | rw [decide_eq_true p0]
  (repeat walk_at "mine_step")
  first | refine zqg (decide_eq_true p1) ?_ | refine zqe (decide_eq_true p1) ?_ | refine zqd (ndt p1) ?_ | refine zqf (ndt p1) ?_ | rw [decide_eq_true p1]
  (repeat walk_at "mine_step")
  exact ret_none .refl hK
set_option maxHeartbeats 4000000 in
theorem v_is_enough {fam : List Str} {X : Cx} {k : Nat} (cx : CxOk X) (calm : 100 ≤ k) (zipk : X.val ("zip" : Str) = some (.type "zip")) (h_wanted : ValidF X k ("wanted" : Str) wantedT) (h_offered : ValidF X k ("offered" : Str) offeredT) {nm : Str} {ps : Arguments} {body : List Stmt} {dl : List Expr} {re : Option Expr} {tp} {sc : Scope} {tc} {q : Str} {pos : Pos}
    (hs : prg.main.body[12]? = some (.FunctionDef nm ps body dl re tp sc tc q pos)) (hf : IsFn X ("is_enough" : Str) (ps.args.map (·.arg)) body sc) : ValidF X (k + 1) ("is_enough" : Str) is_enoughT := by
  cases hs
  have hf : IsFn X ("is_enough" : Str) ["wishes", "price"] _ _ := hf
  refine valid_fn cx hf (by decide +kernel) ?_
  rintro _ σ K ⟨i, ws, p, rfl, h1, h2, hK⟩
  refine ⟨rfl, fun env => ?_⟩
  dsimp only
  (repeat walk_at "mine_step")
  refine ⟨i, ws, _, rfl, h1, h2, ?_⟩
  (repeat walk_at "mine_step")
  refine ⟨i, ws, _, rfl, h1, h2, ?_⟩
  (repeat walk_at "mine_step")
  exact ret_data .refl hK
set_option maxHeartbeats 4000000 in
theorem v_is_sold {fam : List Str} {X : Cx} {k : Nat} (cx : CxOk X) (calm : 100 ≤ k) (zipk : X.val ("zip" : Str) = some (.type "zip")) (h_offered : ValidF X k ("offered" : Str) offeredT) (h_wanted : ValidF X k ("wanted" : Str) wantedT) {nm : Str} {ps : Arguments} {body : List Stmt} {dl : List Expr} {re : Option Expr} {tp} {sc : Scope} {tc} {q : Str} {pos : Pos}
    (hs : prg.main.body[13]? = some (.FunctionDef nm ps body dl re tp sc tc q pos)) (hf : IsFn X ("is_sold" : Str) (ps.args.map (·.arg)) body sc) : ValidF X (k + 1) ("is_sold" : Str) is_soldT := by
  cases hs
  have hf : IsFn X ("is_sold" : Str) ["wishes", "price"] _ _ := hf
  refine valid_fn cx hf (by decide +kernel) ?_
  rintro _ σ K ⟨i, ws, p, rfl, h1, h2, hK⟩
  refine ⟨rfl, fun env => ?_⟩
  dsimp only
  (repeat walk_at "mine_step")
  refine ⟨i, ws, _, rfl, h1, h2, ?_⟩
  (repeat walk_at "mine_step")
  refine ⟨i, ws, _, rfl, h1, h2, ?_⟩
  (repeat walk_at "mine_step")
  exact ret_data .refl hK
set_option maxHeartbeats 4000000 in
theorem v_lowest {fam : List Str} {X : Cx} {k : Nat} (cx : CxOk X) (calm : 100 ≤ k) (zipk : X.val ("zip" : Str) = some (.type "zip")) (h_is_enough : ValidF X k ("is_enough" : Str) is_enoughT) (d_TOP : ConstIs X ("TOP" : Str) (.int 1000000000)) {nm : Str} {ps : Arguments} {body : List Stmt} {dl : List Expr} {re : Option Expr} {tp} {sc : Scope} {tc} {q : Str} {pos : Pos}
    (hs : prg.main.body[14]? = some (.FunctionDef nm ps body dl re tp sc tc q pos)) (hf : IsFn X ("lowest" : Str) (ps.args.map (·.arg)) body sc) : ValidF X (k + 1) ("lowest" : Str) lowestT := by
  cases hs
  have hf : IsFn X ("lowest" : Str) ["wishes"] _ _ := hf
  refine valid_fn cx hf (by decide +kernel) ?_
  rintro _ σ K ⟨i, ws, rfl, h1, h2, ho, hK⟩
  refine ⟨rfl, fun env => ?_⟩
  dsimp only
  (repeat walk_at "mine_step")
  refine while_src (fun N m σ' => σ' = σ ∧ m ("wishes" : Str) = some (.ref i) ∧ ∃ low high : Int, m ("low" : Str) = some (.d (.int low)) ∧ m ("high" : Str) = some (.d (.int high)) ∧ N = (high - low).toNat ∧ 0 ≤ low ∧ low ≤ high ∧ high ≤ 1000000000 ∧
    (∀ q, 0 ≤ q → q < low → enoughF ws q = false) ∧ (∀ q, high ≤ q → enoughF ws q = true)) _ ⟨rfl, by ((repeat walk_at "mine_look"); done), 0, 1000000000, by ((repeat walk_at "mine_look"); done), by ((repeat walk_at "mine_look"); done), rfl, by (first | lia | omega), by (first | lia | omega), by (first | lia | omega), fun q _ _ => by (first | lia | omega), fun q hq => enoughF_mono ho hq (enoughF_top ho)⟩ ?_
  rintro N m _ ⟨rfl, hm1, low, high, hm2, hm3, rfl, l0, l1, l2, hlo, hhi⟩
  (repeat walk_at "mine_step")
  refine ⟨fun hc => ?_, fun hc => ?_⟩
  · have hc := of_decide_eq_true hc
    (repeat walk_at "mine_step")
    refine ⟨i, ws, _, rfl, h1, h2, ?_⟩
    (repeat walk_at "mine_step")
    refine ⟨fun he => ?_, fun he => ?_⟩
    · (repeat walk_at "mine_step")
      refine ⟨_, ?_, rfl, by ((repeat walk_at "mine_look"); done), low, (low + high) / 2, by ((repeat walk_at "mine_look"); done), by ((repeat walk_at "mine_look"); done), rfl, l0, by (first | lia | omega), by (first | lia | omega), hlo, fun q hq => enoughF_mono ho hq he⟩
      (first | lia | omega)
    · (repeat walk_at "mine_step")
      refine ⟨_, ?_, rfl, by ((repeat walk_at "mine_look"); done), (low + high) / 2 + 1, high, by ((repeat walk_at "mine_look"); done), by ((repeat walk_at "mine_look"); done), rfl, by (first | lia | omega), by (first | lia | omega), by (first | lia | omega), ?_, hhi⟩
      · (first | lia | omega)
      · intro q q0 q1
        cases hq : enoughF ws q with
        | false => rfl
        | true => rw [enoughF_mono ho (by (first | lia | omega) : q ≤ (low + high) / 2) hq] at he; cases he
  · have hc := of_decide_eq_false hc
    (repeat walk_at "mine_step")
    have : low = high := by (first | lia | omega)
    subst this
    exact ret_data .refl (hK low l0 l2 hlo hhi)
set_option maxHeartbeats 4000000 in
theorem v_highest {fam : List Str} {X : Cx} {k : Nat} (cx : CxOk X) (calm : 100 ≤ k) (zipk : X.val ("zip" : Str) = some (.type "zip")) (h_is_sold : ValidF X k ("is_sold" : Str) is_soldT) (d_TOP : ConstIs X ("TOP" : Str) (.int 1000000000)) {nm : Str} {ps : Arguments} {body : List Stmt} {dl : List Expr} {re : Option Expr} {tp} {sc : Scope} {tc} {q : Str} {pos : Pos}
    (hs : prg.main.body[15]? = some (.FunctionDef nm ps body dl re tp sc tc q pos)) (hf : IsFn X ("highest" : Str) (ps.args.map (·.arg)) body sc) : ValidF X (k + 1) ("highest" : Str) highestT := by
  cases hs
  have hf : IsFn X ("highest" : Str) ["wishes"] _ _ := hf
  refine valid_fn cx hf (by decide +kernel) ?_
  rintro _ σ K ⟨i, ws, rfl, h1, h2, ho, hK⟩
  refine ⟨rfl, fun env => ?_⟩
  dsimp only
  (repeat walk_at "mine_step")
  refine while_src (fun N m σ' => σ' = σ ∧ m ("wishes" : Str) = some (.ref i) ∧ ∃ low high : Int, m ("low" : Str) = some (.d (.int low)) ∧ m ("high" : Str) = some (.d (.int high)) ∧ N = (high - low).toNat ∧ 0 ≤ low ∧ low ≤ high ∧ high ≤ 1000000000 ∧
    (∀ q, high < q → q ≤ 1000000000 → soldF ws q = false) ∧ (∀ q, q ≤ low → soldF ws q = true)) _ ⟨rfl, by ((repeat walk_at "mine_look"); done), 0, 1000000000, by ((repeat walk_at "mine_look"); done), by ((repeat walk_at "mine_look"); done), rfl, by (first | lia | omega), by (first | lia | omega), by (first | lia | omega), fun q _ _ => by (first | lia | omega), fun q hq => soldF_anti ho hq (soldF_zero ho)⟩ ?_
  rintro N m _ ⟨rfl, hm1, low, high, hm2, hm3, rfl, l0, l1, l2, hlo, hhi⟩
  (repeat walk_at "mine_step")
  refine ⟨fun hc => ?_, fun hc => ?_⟩
  · have hc := of_decide_eq_true hc
    (repeat walk_at "mine_step")
    refine ⟨i, ws, _, rfl, h1, h2, ?_⟩
    (repeat walk_at "mine_step")
    refine ⟨fun he => ?_, fun he => ?_⟩
    · (repeat walk_at "mine_step")
      refine ⟨_, ?_, rfl, by ((repeat walk_at "mine_look"); done), (low + high + 1) / 2, high, by ((repeat walk_at "mine_look"); done), by ((repeat walk_at "mine_look"); done), rfl, by (first | lia | omega), by (first | lia | omega), by (first | lia | omega), hlo, fun q hq => soldF_anti ho hq he⟩
      (first | lia | omega)
    · (repeat walk_at "mine_step")
      refine ⟨_, ?_, rfl, by ((repeat walk_at "mine_look"); done), low, (low + high + 1) / 2 - 1, by ((repeat walk_at "mine_look"); done), by ((repeat walk_at "mine_look"); done), rfl, by (first | lia | omega), by (first | lia | omega), by (first | lia | omega), ?_, hhi⟩
      · (first | lia | omega)
      · intro q q0 q1
        cases hq : soldF ws q with
        | false => rfl
        | true => rw [soldF_anti ho (by (first | lia | omega) : (low + high + 1) / 2 ≤ q) hq] at he; cases he
  · have hc := of_decide_eq_false hc
    (repeat walk_at "mine_step")
    have : low = high := by (first | lia | omega)
    subst this
    exact ret_data .refl (hK low l0 l2 hlo hhi)
set_option maxHeartbeats 4000000 in
theorem v_pby {fam : List Str} {X : Cx} {k : Nat} (cx : CxOk X) (calm : 100 ≤ k) (zipk : X.val ("zip" : Str) = some (.type "zip")) (h_need_price : ValidF X k ("need_price" : Str) need_priceT) (h_lowest : ValidF X k ("lowest" : Str) lowestT) (h_highest : ValidF X k ("highest" : Str) highestT) (h_min : ValidF X k ("min" : Str) minT) (h_max : ValidF X k ("max" : Str) maxT) {nm : Str} {ps : Arguments} {body : List Stmt} {dl : List Expr} {re : Option Expr} {tp} {sc : Scope} {tc} {q : Str} {pos : Pos}
    (hs : prg.main.body[16]? = some (.FunctionDef nm ps body dl re tp sc tc q pos)) (hf : IsFn X ("price_by" : Str) (ps.args.map (·.arg)) body sc) : ValidF X (k + 1) ("price_by" : Str) pbyT := by
  cases hs
  have hf : IsFn X ("price_by" : Str) ["wishes", "old"] _ _ := hf
  refine valid_fn cx hf (by decide +kernel) ?_
  rintro _ σ K ⟨i, ws, v, rfl, h1, h2, ho, p, rfl, p0, p1, hK⟩
  refine ⟨rfl, fun env => ?_⟩
  dsimp only
  (repeat walk_at "mine_step")
  refine ⟨_, rfl, p, rfl, p0, p1, ?_⟩
  (repeat walk_at "mine_step")
  refine ⟨_, ws, rfl, h1, h2, ho, fun low l0 l1 l2 l3 => ?_⟩
  (repeat walk_at "mine_step")
  dsimp only [maxT, vInt]
  (repeat walk_at "mine_step")
  refine ⟨_, ws, rfl, h1, h2, ho, fun high u0 u1 u2 u3 => ?_⟩
  (repeat walk_at "mine_step")
  dsimp only [minT, vInt]
  (repeat walk_at "mine_step")
  exact ret_data .refl (hK low high ⟨l0, low_le_high u0 l1 l2 u2, u1⟩ l2 l3 u2 u3)

set_option Elab.async false
set_option autoImplicit false
set_option linter.unusedVariables false
set_option linter.unusedSimpArgs false
set_option maxRecDepth 100000
open PySem PySem.Spec PySem.Calls PyProof.Rows
set_option maxHeartbeats 4000000 in
theorem v_ranked {fam : List Str} {X : Cx} {P : Addr} {k : Nat} (cx : CxOk X) (calm : 100 ≤ k) (zipk : X.val ("zip" : Str) = some (.type "zip")) (sortk : X.val ("sorted" : Str) = some (.builtin "sorted")) (h_len : ValidF X k ("len" : Str) lenT) (h_range : ValidF X k ("range" : Str) rangeT) {nm : Str} {ps : Arguments} {body : List Stmt} {dl : List Expr} {re : Option Expr} {tp} {sc : Scope} {tc} {q : Str} {pos : Pos}
    (hs : prg.main.body[18]? = some (.FunctionDef nm ps body dl re tp sc tc q pos)) (hf : FnP X ("ranked" : Str) (ps.args.map (·.arg)) body sc (fun env => Maker X env P (rankQ "ranked"))) : ValidF X (k + 1) ("ranked" : Str) (rankedT P) := by
  cases hs
  have hf : FnP X ("ranked" : Str) ["wishes", "price", "side"] _ _ (fun env => Maker X env P (rankQ "ranked")) := hf
  refine valid_fnP cx hf (by decide +kernel) ?_
  rintro _ σ K ⟨t, i, ws, price, b, rfl, ht, h1, h2, h64, hK⟩
  obtain ⟨k, rfl⟩ : ∃ k', k = k' + 2 := ⟨k - 2, by (first | lia | omega)⟩
  refine ⟨rfl, fun env mk => ?_⟩
  dsimp only
  have hsb := sideS_ok b
  have htl := (List.getElem?_eq_some_iff.mp ht).1
  have nats : ∀ (r : List Nat), ∀ v ∈ r.map natV, ∃ d, v = V.d d := fun r v hv => by obtain ⟨a, _, rfl⟩ := List.mem_map.mp hv; exact ⟨_, rfl⟩
  cases b
  · (repeat walk_at "mine_step")
    refine len_of (h1) (by (first | lia | omega)) ?_
    (repeat walk_at "mine_step")
    refine ⟨by (first | lia | omega), ?_⟩
    (repeat walk_at "mine_step")
    refine comp_src (List.range ws.length) natV (fun k => if ((wAt ws k).buy == false) && eligF price (wAt ws k) then some (natV k) else none) (fun k => src_rngN k) (by simpa using h2) ?_ ?_
    · intro k hk env' Y N hY hN
      have hk := List.mem_range.mp hk
      have hso := side_ok (wAt ws k)
      have ev := vAt hk
      dsimp only [natV] at hY ⊢
      (repeat walk_at "mine_step")
      refine zqa h1 (by first | assumption | exact ⟨by (first | lia | omega), by (first | lia | omega)⟩) ev ?_
      unfold Wish.v at ev ⊢
      (repeat walk_at "mine_step")
      rw [side_beq]
      refine zqb (fun hb => ?_) (fun hb => ?_)
      · have hb' : (wAt ws k).buy = false := beq_iff_eq.mp hb
        (repeat walk_at "mine_step")
        refine zqa h1 (by first | assumption | exact ⟨by (first | lia | omega), by (first | lia | omega)⟩) ev ?_
        (repeat walk_at "mine_step")
        refine zqb (fun hp => ?_) (fun hp => ?_)
        · (repeat walk_at "mine_step")
          exact hY _ (by unfold eligF; rw [hb', hp]; rfl)
        · (repeat walk_at "mine_step")
          exact hN (by unfold eligF; rw [hb', hp]; rfl)
      · (repeat walk_at "mine_step")
        exact hN (by rw [hb]; rfl)
    rw [some_items]
    (repeat walk_at "mine_step")
    refine zqt (t := t) (x := ("k" : Str)) cx mk sortk (by decide +kernel) (by decide +kernel) (by decide +kernel) (by decide +kernel) rfl ?_
    (repeat walk_at "mine_step")
    refine ⟨_, _, fun j => keyF ws false ((someF ws price false).getD j 0), rfl, itemsAt_new, by simpa using h64, by rw [List.getElem?_append_left htl]; exact ht, fun j xv hj env' => ?_, fun p hp1 hp2 => ?_⟩
    · obtain ⟨kk, hk1, rfl, hk2⟩ := some_at hj
      have ev := vAt hk2
      have hkey : keyF ws false ((someF ws price false).getD j 0) = (wAt ws kk).lim := by
        rw [List.getD_eq_getElem?_getD, hk1]; rfl
      dsimp only [natV]
      (repeat walk_at "mine_step")
      refine zqa (Grown.refl.snoc.items h1) (by first | assumption | exact ⟨by (first | lia | omega), by (first | lia | omega)⟩) ev ?_
      unfold Wish.v
      (repeat walk_at "mine_step")
      rw [hkey]
    · obtain ⟨hr, he⟩ := ranks_of hp1 hp2
      rw [he]
      (repeat walk_at "mine_step")
      exact ret_list Grown.refl.snoc.snoc (by simp) get_new (nats _) (hK _ hr)
  · (repeat walk_at "mine_step")
    refine len_of (h1) (by (first | lia | omega)) ?_
    (repeat walk_at "mine_step")
    refine ⟨by (first | lia | omega), ?_⟩
    (repeat walk_at "mine_step")
    refine comp_src (List.range ws.length) natV (fun k => if ((wAt ws k).buy == true) && eligF price (wAt ws k) then some (natV k) else none) (fun k => src_rngN k) (by simpa using h2) ?_ ?_
    · intro k hk env' Y N hY hN
      have hk := List.mem_range.mp hk
      have hso := side_ok (wAt ws k)
      have ev := vAt hk
      dsimp only [natV] at hY ⊢
      (repeat walk_at "mine_step")
      refine zqa h1 (by first | assumption | exact ⟨by (first | lia | omega), by (first | lia | omega)⟩) ev ?_
      unfold Wish.v at ev ⊢
      (repeat walk_at "mine_step")
      rw [side_beq]
      refine zqb (fun hb => ?_) (fun hb => ?_)
      · have hb' : (wAt ws k).buy = true := beq_iff_eq.mp hb
        (repeat walk_at "mine_step")
        refine zqa h1 (by first | assumption | exact ⟨by (first | lia | omega), by (first | lia | omega)⟩) ev ?_
        (repeat walk_at "mine_step")
        refine zqb (fun hp => ?_) (fun hp => ?_)
        · (repeat walk_at "mine_step")
          exact hY _ (by unfold eligF; rw [hb', hp]; rfl)
        · (repeat walk_at "mine_step")
          exact hN (by unfold eligF; rw [hb', hp]; rfl)
      · (repeat walk_at "mine_step")
        exact hN (by rw [hb]; rfl)
    rw [some_items]
    (repeat walk_at "mine_step")
    refine zqt (t := t) (x := ("k" : Str)) cx mk sortk (by decide +kernel) (by decide +kernel) (by decide +kernel) (by decide +kernel) rfl ?_
    (repeat walk_at "mine_step")
    refine ⟨_, _, fun j => keyF ws true ((someF ws price true).getD j 0), rfl, itemsAt_new, by simpa using h64, by rw [List.getElem?_append_left htl]; exact ht, fun j xv hj env' => ?_, fun p hp1 hp2 => ?_⟩
    · obtain ⟨kk, hk1, rfl, hk2⟩ := some_at hj
      have ev := vAt hk2
      have hkey : keyF ws true ((someF ws price true).getD j 0) = - (wAt ws kk).lim := by
        rw [List.getD_eq_getElem?_getD, hk1]; rfl
      dsimp only [natV]
      (repeat walk_at "mine_step")
      refine zqa (Grown.refl.snoc.items h1) (by first | assumption | exact ⟨by (first | lia | omega), by (first | lia | omega)⟩) ev ?_
      unfold Wish.v
      (repeat walk_at "mine_step")
      rw [hkey]
    · obtain ⟨hr, he⟩ := ranks_of hp1 hp2
      rw [he]
      (repeat walk_at "mine_step")
      exact ret_list Grown.refl.snoc.snoc (by simp) get_new (nats _) (hK _ hr)
set_option maxHeartbeats 4000000 in
theorem v_pieces_at {fam : List Str} {X : Cx} {P : Addr} {k : Nat} (cx : CxOk X) (calm : 100 ≤ k) (zipk : X.val ("zip" : Str) = some (.type "zip")) (h_need_price : ValidF X k ("need_price" : Str) need_priceT) (h_wanted : ValidF X k ("wanted" : Str) wantedT) (h_offered : ValidF X k ("offered" : Str) offeredT) (h_min : ValidF X k ("min" : Str) minT) (h_ranked : ValidF X k ("ranked" : Str) (rankedT P)) {nm : Str} {ps : Arguments} {body : List Stmt} {dl : List Expr} {re : Option Expr} {tp} {sc : Scope} {tc} {q : Str} {pos : Pos}
    (hs : prg.main.body[19]? = some (.FunctionDef nm ps body dl re tp sc tc q pos)) (hf : IsFn X ("pieces_at" : Str) (ps.args.map (·.arg)) body sc) : ValidF X (k + 1) ("pieces_at" : Str) (pieces_atT P) := by
  cases hs
  have hf : IsFn X ("pieces_at" : Str) ["wishes", "price"] _ _ := hf
  refine valid_fn cx hf (by decide +kernel) ?_
  rintro _ σ K ⟨t, i, ws, v, rfl, ht, h1, h2', ho, h64, p, rfl, p0, p1, hK⟩
  have h2 : ws.length ≤ 1000000 := by (first | lia | omega)
  have htl := (List.getElem?_eq_some_iff.mp ht).1
  refine ⟨rfl, fun env => ?_⟩
  dsimp only
  (repeat walk_at "mine_step")
  refine ⟨_, rfl, p, rfl, p0, p1, ?_⟩
  (repeat walk_at "mine_step")
  refine comp_src ws Wish.v (fun _ => some (.d (.int 0))) (src_ref h1) (by (first | lia | omega)) ?_ ?_
  · intro w _ env' Y N hY hN
    (repeat walk_at "mine_step")
    exact hY _ rfl
  rw [zeros]
  (repeat walk_at "mine_step")
  have hD : 0 ≤ dealtF ws p := by have := wantedF_nonneg ho p; have := offeredF_nonneg ho p; unfold dealtF; (first | lia | omega)
  have edl : (if offeredF ws p < wantedF ws p then offeredF ws p else wantedF ws p) = dealtF ws p := by unfold dealtF; split <;> (first | lia | omega)
  -- one side: what is served
  refine for_src [true, false] (fun b => .d (.str (sideS b))) (fun k m τ => ∃ (fs : List Int) (rs : List Cell), τ = σ ++ [Cell.lst (fs.map vInt)] ++ rs ∧ fs.length = ws.length ∧
    ((k = 0 ∧ fs = List.replicate ws.length 0) ∨ (k = 1 ∧ ∃ r1, Ranks ws p true r1 ∧ fs = serve (fun j => (wAt ws j).amt) (dealtF ws p) r1 (List.replicate ws.length 0)) ∨ (k = 2 ∧ fs = piecesF ws p)) ∧
    m ("wishes" : Str) = some (.ref i) ∧ m ("price" : Str) = some (.d (.int p)) ∧ m ("found" : Str) = some (.ref σ.length)) ⟨_, [], by simp, by simp, .inl ⟨rfl, rfl⟩, by ((repeat walk_at "mine_look"); done), by ((repeat walk_at "mine_look"); done), by ((repeat walk_at "mine_look"); done)⟩ ?_ ?_ ?_
  · rintro k m _ _
    exact src_tup k
  · rintro k hk m _ ⟨fs, rs, rfl, hfl, hst, m1, m2, m3⟩
    have g0 : Grown σ (σ ++ [Cell.lst (fs.map vInt)] ++ rs) := ⟨[Cell.lst (fs.map vInt)] ++ rs, by simp⟩
    have hk' : k = 0 ∨ k = 1 := by simp at hk; (first | lia | omega)
    obtain ⟨b, eb⟩ : ∃ b, ([true, false] : List Bool)[k] = b := ⟨_, rfl⟩
    rw [eb]
    have hsb := sideS_ok b
    (repeat walk_at "mine_step")
    refine ⟨_, ws, p, rfl, g0.items h1, h2, ?_⟩
    (repeat walk_at "mine_step")
    refine ⟨_, ws, p, rfl, g0.items h1, h2, ?_⟩
    (repeat walk_at "mine_step")
    dsimp only [minT, vInt]
    (repeat walk_at "mine_step")
    rw [edl]
    (repeat walk_at "mine_step")
    refine ⟨t, i, ws, p, b, rfl, by rw [List.append_assoc, List.getElem?_append_left htl]; exact ht, g0.items h1, h2, h64 p b, fun r hr => ?_⟩
    (repeat walk_at "mine_step")
    have hrm : ∀ j ∈ r, j < ws.length := fun j hj => (mem_some.mp (hr.perm.mem_iff.mp hj)).1
    have hrn := hr.nodup
    have eset : ∀ {a x : Cell} {rs : List Cell} {b : Cell}, (σ ++ [a] ++ rs ++ [b]).set σ.length x = σ ++ [x] ++ rs ++ [b] := by intro a x rs b; simp
    have eget : ∀ {a : Cell} {rs : List Cell} {b : Cell}, (σ ++ [a] ++ rs ++ [b])[σ.length]? = some a := by intro a rs b; simp
    have eit : ∀ {a : List V} {rs : List Cell} {b : Cell}, itemsAt (σ ++ [.lst a] ++ rs ++ [b]) σ.length = some a := by intro a rs b; unfold itemsAt; simp [Cell.list?]
    refine for_src r natV (fun j m τ => ∃ (fj : List Int) (rest : Int), τ = σ ++ [Cell.lst (fj.map vInt)] ++ rs ++ [Cell.lst (r.map natV)] ∧ fj.length = ws.length ∧ 0 ≤ rest ∧ serve (fun j => (wAt ws j).amt) rest (r.drop j) fj = serve (fun j => (wAt ws j).amt) (dealtF ws p) r fs ∧
      m ("wishes" : Str) = some (.ref i) ∧ m ("price" : Str) = some (.d (.int p)) ∧ m ("found" : Str) = some (.ref σ.length) ∧ m ("rest" : Str) = some (.d (.int rest)))
      ⟨fs, dealtF ws p, rfl, hfl, hD, rfl, by ((repeat walk_at "mine_look"); done), by ((repeat walk_at "mine_look"); done), by ((repeat walk_at "mine_look"); done), by ((repeat walk_at "mine_look"); done)⟩ ?_ ?_ ?_
    · rintro j m _ ⟨fj, rest, rfl, _⟩
      rw [show (σ ++ [Cell.lst (fs.map vInt)] ++ rs).length = (σ ++ [Cell.lst (fj.map vInt)] ++ rs).length by simp]
      exact src_ref itemsAt_new j
    · clear m1 m2 m3 m
      rintro j hj m _ ⟨fj, rest, rfl, hfj, hr0, hsv, m1, m2, m3, m4⟩
      rw [List.drop_eq_getElem_cons hj] at hsv
      have hkm := hrm _ (List.getElem_mem hj)
      generalize r[j] = kk at *
      dsimp only [natV]
      have ev := vAt hkm
      have a1 := amt_pos ho hkm
      have hkf : kk < fj.length := by rw [hfj]; exact hkm
      have gi : Grown σ (σ ++ [Cell.lst (fj.map vInt)] ++ rs ++ [Cell.lst (r.map natV)]) := ⟨[Cell.lst (fj.map vInt)] ++ rs ++ [Cell.lst (r.map natV)], by simp⟩
      rw [serve_cons] at hsv
      generalize serve (fun j => (wAt ws j).amt) (dealtF ws p) r fs = fin at *
      generalize hw : wAt ws kk = w at *
      unfold Wish.v at ev
      have emin : (if w.amt < rest then w.amt else rest) = min rest w.amt := by split <;> (first | lia | omega)
      have ep := iAt (ps := fj.set kk (min rest w.amt)) (k := kk) (by simpa using hkf)
      rw [show (fj.set kk (min rest w.amt)).getD kk 0 = min rest w.amt by rw [List.getD_eq_getElem?_getD, List.getElem?_set_self hkf]; rfl] at ep
      (repeat walk_at "mine_step")
      refine zqa (gi.items h1) (by first | assumption | exact ⟨by (first | lia | omega), by (first | lia | omega)⟩) ev ?_
      (repeat walk_at "mine_step")
      dsimp only [minT, vInt]
      (repeat walk_at "mine_step")
      rw [emin]
      refine zqi eget (by first | assumption | exact ⟨by (first | lia | omega), by (first | lia | omega)⟩) (by rw [List.length_map]; (first | lia | omega)) ?_
      rw [eset, set_ints]
      (repeat walk_at "mine_step")
      refine zqa eit (by first | assumption | exact ⟨by (first | lia | omega), by (first | lia | omega)⟩) ep ?_
      (repeat walk_at "mine_step")
      exact ⟨fj.set kk (min rest w.amt), rest - min rest w.amt, rfl, by simp [hfj], by (first | lia | omega), hsv, by ((repeat walk_at "mine_look"); done), by ((repeat walk_at "mine_look"); done), by ((repeat walk_at "mine_look"); done), by ((repeat walk_at "mine_look"); done)⟩
    · clear m1 m2 m3 m
      rintro m _ ⟨fj, rest, rfl, hfj, hr0, hsv, m1, m2, m3, m4⟩
      rw [List.drop_length] at hsv
      rw [serve_nil] at hsv
      (repeat walk_at "mine_step")
      refine ⟨fj, rs ++ [Cell.lst (r.map natV)], by simp, hfj, ?_, m1, m2, m3⟩
      rcases hst with ⟨rfl, rfl⟩ | ⟨rfl, r1, hr1, rfl⟩ | ⟨rfl, _⟩
      · have : b = true := eb.symm
        subst this
        exact .inr (.inl ⟨rfl, r, hr, hsv⟩)
      · have : b = false := eb.symm
        subst this
        refine .inr (.inr ⟨rfl, ?_⟩)
        rw [hsv]
        exact serve_due hr1 hr ho hD
      · (first | lia | omega)
  · rintro m _ ⟨fs, rs, rfl, hfl, hst, m1, m2, m3⟩
    rcases hst with ⟨q, _⟩ | ⟨q, _⟩ | ⟨_, rfl⟩
    · simp at q
    · simp at q
    · (repeat walk_at "mine_step")
      refine ret_list (j := σ.length) (xs := (piecesF ws p).map vInt) ⟨[Cell.lst ((piecesF ws p).map vInt)] ++ rs, by simp⟩ (Nat.le_refl _) (by simp) (by simp [vInt]) hK

set_option Elab.async false
set_option autoImplicit false
set_option linter.unusedVariables false
set_option linter.unusedSimpArgs false
set_option maxRecDepth 100000
open PySem PySem.Spec PySem.Calls PyProof.Rows
set_option maxHeartbeats 4000000 in
theorem v_need_pieces {fam : List Str} {X : Cx} {k : Nat} (cx' : ∀ bd : Addr → Prop, CxOk (X.hide bd)) (calm' : ∀ bd : Addr → Prop, 100 ≤ k) (zipk' : ∀ bd : Addr → Prop, (X.hide bd).val ("zip" : Str) = some (.type "zip")) (h_isi' : ∀ bd : Addr → Prop, ValidF (X.hide bd) k ("isinstance" : Str) (isiT fam)) (h_len' : ∀ bd : Addr → Prop, ValidF (X.hide bd) k ("len" : Str) lenT) (h_num' : ∀ bd : Addr → Prop, ValidF (X.hide bd) k ("is_number" : Str) numT) (k_list' : ∀ bd : Addr → Prop, Known (X.hide bd) ("list" : Str)) {nm : Str} {ps : Arguments} {body : List Stmt} {dl : List Expr} {re : Option Expr} {tp} {sc : Scope} {tc} {q : Str} {pos : Pos}
    (hs : prg.main.body[20]? = some (.FunctionDef nm ps body dl re tp sc tc q pos)) (hf : IsFn X ("need_pieces" : Str) (ps.args.map (·.arg)) body sc) : ValidF X (k + 1) ("need_pieces" : Str) need_piecesT := by
  cases hs
  have hf : IsFn X ("need_pieces" : Str) ["wishes", "pieces"] _ _ := hf
  have cx := cx' X.bad
  have calm := calm' X.bad
  have zipk := zipk' X.bad
  have h_isi := h_isi' X.bad
  have h_len := h_len' X.bad
  have h_num := h_num' X.bad
  have k_list := k_list' X.bad
  refine valid_fn cx hf (by decide +kernel) ?_
  rintro _ σ K ⟨i, ws, j, xs, rfl, h1, h2, h3, h4, ps, rfl, hf, hK⟩
  have hl := hf.1
  refine ⟨rfl, fun env => ?_⟩
  dsimp only
  (repeat walk_at "mine_step")
  refine isi_of (isi_list h3) ?_
  (repeat walk_at "mine_step")
  refine len_of h3 (by simpa using h4) ?_
  (repeat walk_at "mine_step")
  refine len_of h1 h2 ?_
  (repeat walk_at "mine_step")
  first | refine zqg (decide_eq_true (by (first | lia | omega))) ?_ | refine zqe (decide_eq_true (by (first | lia | omega))) ?_ | refine zqd (ndt (by (first | lia | omega))) ?_ | refine zqf (ndt (by (first | lia | omega))) ?_ | rw [decide_eq_true (by (first | lia | omega))]
  (repeat walk_at "mine_step")
  refine zip_src ws ps Wish.v vInt (fun k m σ' => σ' = σ) h1 h3 rfl ?_ ?_ ?_
  · rintro k m _ rfl
    exact ⟨h1, h3⟩
  · rintro k k1 k2 m _ rfl
    intro bd
    have cx := cx' bd
    have calm := calm' bd
    have zipk := zipk' bd
    have h_isi := h_isi' bd
    have h_len := h_len' bd
    have h_num := h_num' bd
    have k_list := k_list' bd
    have hw := fits_at hf k1
    rw [wAt_eq k1, show ps.getD k 0 = ps[k] by rw [List.getD_eq_getElem?_getD, List.getElem?_eq_getElem k2]; rfl] at hw
    generalize ws[k] = w at *
    generalize ps[k] = n at *
    unfold Wish.v
    dsimp only [vInt]
    (repeat walk_at "mine_step")
    refine ⟨_, true, rfl, num_int, ?_⟩
    (repeat walk_at "mine_step")
    first | refine zqg (decide_eq_true hw.1) ?_ | refine zqe (decide_eq_true hw.1) ?_ | refine zqd (ndt hw.1) ?_ | refine zqf (ndt hw.1) ?_ | rw [decide_eq_true hw.1]
    (repeat walk_at "mine_step")
    first | refine zqg (decide_eq_true hw.2) ?_ | refine zqe (decide_eq_true hw.2) ?_ | refine zqd (ndt hw.2) ?_ | refine zqf (ndt hw.2) ?_ | rw [decide_eq_true hw.2]
    (repeat walk_at "mine_step")
    rfl
  · rintro m _ rfl
    (repeat walk_at "mine_step")
    exact ret_none .refl hK
set_option maxHeartbeats 4000000 in
theorem v_worth {fam : List Str} {X : Cx} {k : Nat} (cx' : ∀ bd : Addr → Prop, CxOk (X.hide bd)) (calm' : ∀ bd : Addr → Prop, 100 ≤ k) (zipk' : ∀ bd : Addr → Prop, (X.hide bd).val ("zip" : Str) = some (.type "zip")) (h_need_pieces' : ∀ bd : Addr → Prop, ValidF (X.hide bd) k ("need_pieces" : Str) need_piecesT) {nm : Str} {ps : Arguments} {body : List Stmt} {dl : List Expr} {re : Option Expr} {tp} {sc : Scope} {tc} {q : Str} {pos : Pos}
    (hs : prg.main.body[21]? = some (.FunctionDef nm ps body dl re tp sc tc q pos)) (hf : IsFn X ("worth" : Str) (ps.args.map (·.arg)) body sc) : ValidF X (k + 1) ("worth" : Str) worthT := by
  cases hs
  have hf : IsFn X ("worth" : Str) ["wishes", "pieces"] _ _ := hf
  have cx := cx' X.bad
  have calm := calm' X.bad
  have zipk := zipk' X.bad
  have h_need_pieces := h_need_pieces' X.bad
  refine valid_fn cx hf (by decide +kernel) ?_
  rintro _ σ K ⟨i, ws, j, xs, rfl, h1, h2, ho, h3, h4, ps, rfl, hf, hK⟩
  refine ⟨rfl, fun env => ?_⟩
  dsimp only
  (repeat walk_at "mine_step")
  refine ⟨i, ws, j, _, rfl, h1, h2, h3, h4, ps, rfl, hf, ?_⟩
  (repeat walk_at "mine_step")
  refine zip_src ws ps Wish.v vInt (fun k m σ' => σ' = σ ∧ m ("found" : Str) = some (.d (.int (worthF ws ps k)))) h1 h3 ⟨rfl, by ((repeat walk_at "mine_look"); done)⟩ ?_ ?_ ?_
  · rintro k m _ ⟨rfl, _⟩
    exact ⟨h1, h3⟩
  · rintro k k1 k2 m _ ⟨rfl, hm⟩
    intro bd
    have cx := cx' bd
    have calm := calm' bd
    have zipk := zipk' bd
    have h_need_pieces := h_need_pieces' bd
    have es := worthF_succ k1 k2
    have ok := ho _ (List.getElem_mem k1)
    generalize ws[k] = w at *
    generalize ps[k] = n at *
    have hso := side_ok w
    unfold Wish.v
    dsimp only [vInt]
    (repeat walk_at "mine_step")
    have hbits : Builtin.Int.intBits w.lim ≤ 64 := intBits_le_64 (by have := ok.1; (first | lia | omega)) (by have := ok.2.1; (first | lia | omega))
    refine ⟨fun hc => ?_, fun hc => ?_⟩
    · (repeat walk_at "mine_step")
      refine zqo (.of_left hbits) ?_
      (repeat walk_at "mine_step")
      refine ⟨rfl, ?_⟩
      rw [es]
      rw [buy_beq] at hc
      unfold payF
      rw [hc, if_pos rfl]
      ((repeat walk_at "mine_look"); done)
    · (repeat walk_at "mine_step")
      refine zqo (.of_left hbits) ?_
      (repeat walk_at "mine_step")
      refine ⟨rfl, ?_⟩
      rw [es]
      rw [buy_beq] at hc
      unfold payF
      rw [hc, if_neg (by decide), ← Int.sub_eq_add_neg]
      ((repeat walk_at "mine_look"); done)
  · rintro m _ ⟨rfl, hm⟩
    have e : min ws.length ps.length = ws.length := by rw [hf.1]; (first | lia | omega)
    rw [e] at hm
    (repeat walk_at "mine_step")
    exact ret_data .refl hK
set_option maxHeartbeats 4000000 in
theorem v_side_sum {fam : List Str} {X : Cx} {k : Nat} (cx : CxOk X) (calm : 100 ≤ k) (zipk : X.val ("zip" : Str) = some (.type "zip")) (h_sum : ValidF X k ("sum" : Str) sumT) (h_range : ValidF X k ("range" : Str) rangeT) (h_len : ValidF X k ("len" : Str) lenT) {nm : Str} {ps : Arguments} {body : List Stmt} {dl : List Expr} {re : Option Expr} {tp} {sc : Scope} {tc} {q : Str} {pos : Pos}
    (hs : prg.main.body[22]? = some (.FunctionDef nm ps body dl re tp sc tc q pos)) (hf : IsFn X ("side_sum" : Str) (ps.args.map (·.arg)) body sc) : ValidF X (k + 1) ("side_sum" : Str) side_sumT := by
  cases hs
  have hf : IsFn X ("side_sum" : Str) ["wishes", "pieces", "side"] _ _ := hf
  refine valid_fn cx hf (by decide +kernel) ?_
  rintro _ σ K ⟨i, j, ws, ps, b, rfl, h1, h2, h3, h4, hK⟩
  refine ⟨rfl, fun env => ?_⟩
  dsimp only
  have hsb := sideS_ok b
  (repeat walk_at "mine_step")
  refine len_of (h1) (by (first | lia | omega)) ?_
  (repeat walk_at "mine_step")
  refine ⟨by (first | lia | omega), ?_⟩
  (repeat walk_at "mine_step")
  refine comp_src (List.range ws.length) (fun k => vInt k) (fun k => if (wAt ws k).buy == b then some (vInt (ps.getD k 0)) else none) (fun k => src_rng k) (by simpa using h2) ?_ ?_
  · intro k hk env' Y N hY hN
    have hk := List.mem_range.mp hk
    have hso := side_ok (wAt ws k)
    have ev := vAt hk
    have ep := iAt (ps := ps) (k := k) (by (first | lia | omega))
    dsimp only [vInt]
    (repeat walk_at "mine_step")
    refine zqa h1 (by first | assumption | exact ⟨by (first | lia | omega), by (first | lia | omega)⟩) ev ?_
    unfold Wish.v
    (repeat walk_at "mine_step")
    rw [side_beq]
    refine zqb (fun hb => ?_) (fun hb => ?_)
    · (repeat walk_at "mine_step")
      refine zqa h3 (by first | assumption | exact ⟨by (first | lia | omega), by (first | lia | omega)⟩) ep ?_
      exact hY _ (by rw [hb]; rfl)
    · (repeat walk_at "mine_step")
      exact hN (by rw [hb]; rfl)
  · (repeat walk_at "mine_step")
    refine ⟨_, itemsAt_new.trans (congrArg some side_items), ?_⟩
    (repeat walk_at "mine_step")
    exact ret_data Grown.refl.snoc hK
set_option maxHeartbeats 4000000 in
theorem v_even {fam : List Str} {X : Cx} {k : Nat} (cx : CxOk X) (calm : 100 ≤ k) (zipk : X.val ("zip" : Str) = some (.type "zip")) (h_need_pieces : ValidF X k ("need_pieces" : Str) need_piecesT) (h_side_sum : ValidF X k ("side_sum" : Str) side_sumT) {nm : Str} {ps : Arguments} {body : List Stmt} {dl : List Expr} {re : Option Expr} {tp} {sc : Scope} {tc} {q : Str} {pos : Pos}
    (hs : prg.main.body[23]? = some (.FunctionDef nm ps body dl re tp sc tc q pos)) (hf : IsFn X ("even" : Str) (ps.args.map (·.arg)) body sc) : ValidF X (k + 1) ("even" : Str) evenT := by
  cases hs
  have hf : IsFn X ("even" : Str) ["wishes", "pieces"] _ _ := hf
  refine valid_fn cx hf (by decide +kernel) ?_
  rintro _ σ K ⟨i, ws, j, xs, rfl, h1, h2, h3, h4, ps, rfl, hf, hK⟩
  refine ⟨rfl, fun env => ?_⟩
  dsimp only
  (repeat walk_at "mine_step")
  refine ⟨i, ws, j, _, rfl, h1, h2, h3, h4, ps, rfl, hf, ?_⟩
  (repeat walk_at "mine_step")
  refine ⟨i, j, ws, ps, true, rfl, h1, h2, h3, hf.1, ?_⟩
  (repeat walk_at "mine_step")
  refine ⟨i, j, ws, ps, false, rfl, h1, h2, h3, hf.1, ?_⟩
  (repeat walk_at "mine_step")
  exact ret_data .refl hK
set_option maxHeartbeats 4000000 in
theorem v_pairs {fam : List Str} {X : Cx} {k : Nat} (cx : CxOk X) (calm : 100 ≤ k) (zipk : X.val ("zip" : Str) = some (.type "zip")) (h_even : ValidF X k ("even" : Str) evenT) (h_list : ValidF X k ("list" : Str) listT) (h_range : ValidF X k ("range" : Str) rangeT) (h_len : ValidF X k ("len" : Str) lenT) (h_min : ValidF X k ("min" : Str) minT) (m_append : ValidM X k "list" ("append" : Str) appendT) {nm : Str} {ps : Arguments} {body : List Stmt} {dl : List Expr} {re : Option Expr} {tp} {sc : Scope} {tc} {q : Str} {pos : Pos}
    (hs : prg.main.body[24]? = some (.FunctionDef nm ps body dl re tp sc tc q pos)) (hf : IsFn X ("pairs" : Str) (ps.args.map (·.arg)) body sc) : ValidF X (k + 1) ("pairs" : Str) pairsT := by
  cases hs
  have hf : IsFn X ("pairs" : Str) ["wishes", "pieces"] _ _ := hf
  refine valid_fn cx hf (by decide +kernel) ?_
  rintro _ σ K ⟨i, ws, j, xs, rfl, h1, h2', h3, h4, ps, rfl, hf, he, hK⟩
  have h2 : ws.length ≤ 1000000 := by (first | lia | omega)
  refine ⟨rfl, fun env => ?_⟩
  dsimp only
  have hl := hf.1
  (repeat walk_at "mine_step")
  refine ⟨i, ws, j, _, rfl, h1, h2, h3, h4, ps, rfl, hf, ?_⟩
  rw [show evenF ws ps = true from decide_eq_true he]
  (repeat walk_at "mine_step")
  refine ⟨_, h3, h4, ?_⟩
  (repeat walk_at "mine_step")
  refine len_of (Grown.refl.snoc.items h1) (by (first | lia | omega)) ?_
  (repeat walk_at "mine_step")
  refine ⟨by (first | lia | omega), ?_⟩
  (repeat walk_at "mine_step")
  refine comp_src (List.range ws.length) natV (fun k => if ((wAt ws k).buy == true) && decide (0 < ps.getD k 0) then some (natV k) else none) (fun k => src_rngN k) (by simpa using h2) ?_ ?_
  · intro k hk env' Y N hY hN
    have hk := List.mem_range.mp hk
    have hso := side_ok (wAt ws k)
    have ev := vAt hk
    have ep := iAt (ps := ps) (k := k) (by (first | lia | omega))
    dsimp only [natV] at hY ⊢
    (repeat walk_at "mine_step")
    refine zqa (Grown.refl.snoc.items h1) (by first | assumption | exact ⟨by (first | lia | omega), by (first | lia | omega)⟩) ev ?_
    unfold Wish.v
    (repeat walk_at "mine_step")
    rw [buy_beq]
    refine zqb (fun hb => ?_) (fun hb => ?_)
    · (repeat walk_at "mine_step")
      refine zqa (Grown.refl.snoc.items h3) (by first | assumption | exact ⟨by (first | lia | omega), by (first | lia | omega)⟩) ep ?_
      (repeat walk_at "mine_step")
      refine zqb (fun hp => ?_) (fun hp => ?_)
      · (repeat walk_at "mine_step")
        exact hY _ (by rw [hb, hp]; rfl)
      · (repeat walk_at "mine_step")
        exact hN (by rw [hb, hp]; rfl)
    · (repeat walk_at "mine_step")
      exact hN (by rw [hb]; rfl)
  rw [busy_items]
  (repeat walk_at "mine_step")
  refine len_of (Grown.refl.snoc.snoc.items h1) (by (first | lia | omega)) ?_
  (repeat walk_at "mine_step")
  refine ⟨by (first | lia | omega), ?_⟩
  (repeat walk_at "mine_step")
  refine comp_src (List.range ws.length) natV (fun k => if ((wAt ws k).buy == false) && decide (0 < ps.getD k 0) then some (natV k) else none) (fun k => src_rngN k) (by simpa using h2) ?_ ?_
  · intro k hk env' Y N hY hN
    have hk := List.mem_range.mp hk
    have hso := side_ok (wAt ws k)
    have ev := vAt hk
    have ep := iAt (ps := ps) (k := k) (by (first | lia | omega))
    dsimp only [natV] at hY ⊢
    (repeat walk_at "mine_step")
    refine zqa (Grown.refl.snoc.snoc.items h1) (by first | assumption | exact ⟨by (first | lia | omega), by (first | lia | omega)⟩) ev ?_
    unfold Wish.v
    (repeat walk_at "mine_step")
    rw [sell_beq]
    refine zqb (fun hb => ?_) (fun hb => ?_)
    · rw [Bool.not_eq_true'] at hb
      (repeat walk_at "mine_step")
      refine zqa (Grown.refl.snoc.snoc.items h3) (by first | assumption | exact ⟨by (first | lia | omega), by (first | lia | omega)⟩) ep ?_
      (repeat walk_at "mine_step")
      refine zqb (fun hp => ?_) (fun hp => ?_)
      · (repeat walk_at "mine_step")
        exact hY _ (by rw [hb, hp]; rfl)
      · (repeat walk_at "mine_step")
        exact hN (by rw [hb, hp]; rfl)
    · rw [Bool.not_eq_false'] at hb
      (repeat walk_at "mine_step")
      exact hN (by rw [hb]; rfl)
  rw [busy_items]
  (repeat walk_at "mine_step")
  have pi := PInv.start hl (fun k hk => (fits_at hf hk).1) he
  have pc := cnt_start (ws := ws) (ps := ps) (c := true) (d := false)
  have hSl : (busyF ws ps false).length ≤ ws.length := Nat.le_trans (List.length_filter_le ..) (by simp)
  generalize busyF ws ps true = B at *
  generalize busyF ws ps false = S at *
  refine for_src B natV (fun k m σ' => ∃ (rest : List Int) (at' : Nat) (found : List (Nat × Nat × Int)), σ' = σ ++ [Cell.lst (rest.map vInt)] ++ [Cell.lst (B.map natV)] ++ [Cell.lst (S.map natV)] ++ [Cell.lst (found.map dealV)] ∧
    PInv ws ps rest (B.drop k) (S.drop at') found ∧ cntP rest (B.drop k) (S.drop at') found ≤ 2 * ws.length ∧ m ("rest" : Str) = some (.ref σ.length) ∧ m ("sellers" : Str) = some (.ref (σ.length + 2)) ∧ m ("found" : Str) = some (.ref (σ.length + 3)) ∧ m ("at" : Str) = some (.d (.int (at' : Nat))))
    ⟨ps, 0, [], rfl, pi, pc, by ((repeat walk_at "mine_look"); done), ?_, ?_, by ((repeat walk_at "mine_look"); done)⟩ ?_ ?_ ?_
  · refine Eq.trans (b := some (.ref (σ ++ [Cell.lst (ps.map vInt)] ++ [Cell.lst (B.map natV)]).length)) (by ((repeat walk_at "mine_look"); done)) (by simp)
  · refine Eq.trans (b := some (.ref (σ ++ [Cell.lst (ps.map vInt)] ++ [Cell.lst (B.map natV)] ++ [Cell.lst (S.map natV)]).length)) (by ((repeat walk_at "mine_look"); done)) (by simp)
  · rintro k m _ ⟨rest, at', found, rfl, _⟩
    rw [show (σ ++ [Cell.lst (ps.map vInt)]).length = σ.length + 1 by simp]
    exact src_ref it41 k
  · rintro k hk m _ ⟨rest, at', found, rfl, pi, pc, m1, m2, m3, m4⟩
    rw [List.drop_eq_getElem_cons hk] at pi pc
    generalize B[k] = b at *
    generalize hBs : B.drop (k + 1) = Bs at *
    dsimp only [natV]
    (repeat walk_at "mine_step")
    refine while_src (fun N m σ' => ∃ (rest : List Int) (at' : Nat) (found : List (Nat × Nat × Int)), σ' = σ ++ [Cell.lst (rest.map vInt)] ++ [Cell.lst (B.map natV)] ++ [Cell.lst (S.map natV)] ++ [Cell.lst (found.map dealV)] ∧
      PInv ws ps rest (b :: Bs) (S.drop at') found ∧ cntP rest (b :: Bs) (S.drop at') found ≤ 2 * ws.length ∧ N = (rest.getD b 0).toNat ∧ m ("rest" : Str) = some (.ref σ.length) ∧ m ("sellers" : Str) = some (.ref (σ.length + 2)) ∧ m ("found" : Str) = some (.ref (σ.length + 3)) ∧ m ("at" : Str) = some (.d (.int (at' : Nat))) ∧ m ("buyer" : Str) = some (.d (.int (b : Nat)))) _
      ⟨rest, at', found, rfl, pi, pc, rfl, by ((repeat walk_at "mine_look"); done), by ((repeat walk_at "mine_look"); done), by ((repeat walk_at "mine_look"); done), by ((repeat walk_at "mine_look"); done), by ((repeat walk_at "mine_look"); done)⟩ ?_
    clear m1 m2 m3 m4 m pi pc
    rintro N m _ ⟨rest, at', found, rfl, pi, pc, rfl, m1, m2, m3, m4, m5⟩
    have hb := pi.bs b List.mem_cons_self
    have hbl : b < rest.length := by rw [pi.len]; exact hb.1
    have epb := iAt hbl
    (repeat walk_at "mine_step")
    refine zqa it40 (by first | assumption | exact ⟨by (first | lia | omega), by (first | lia | omega)⟩) epb ?_
    (repeat walk_at "mine_step")
    refine ⟨fun hc => ?_, fun hc => ?_⟩
    · have hc := of_decide_eq_true hc
      obtain ⟨s, Ss, eS⟩ := pi.more hc
      have hat : at' < S.length := by
        have := congrArg List.length eS
        simp at this; (first | lia | omega)
      have eS2 := List.drop_eq_getElem_cons hat
      rw [eS] at eS2
      obtain ⟨es1, es2⟩ := List.cons.inj eS2
      rw [eS] at pi pc
      have hs := pi.ss s List.mem_cons_self
      have hsl : s < rest.length := by rw [pi.len]; exact hs.1
      have eps := iAt hsl
      have hne : b ≠ s := fun q => by have := hb.2.1; rw [q, hs.2.1] at this; cases this
      have eSt := nAt hat
      rw [← es1] at eSt
      obtain ⟨n, hn⟩ : ∃ n, n = min (rest.getD b 0) (rest.getD s 0) := ⟨_, rfl⟩
      have hn2 : (if rest.getD s 0 < rest.getD b 0 then rest.getD s 0 else rest.getD b 0) = n := by rw [hn]; split <;> (first | lia | omega)
      obtain ⟨pd, gb, gs⟩ := pi.deal hc hn
      have cd := Nat.le_trans (cnt_deal pi hc hn) pc
      have hfl : found.length ≤ 2 * ws.length := by unfold cntP at pc; (first | lia | omega)
      have e1 : (take1 rest b n).getD s 0 = rest.getD s 0 := by rw [take1_get hbl, if_neg hne.symm]
      have hsl2 : s < (take1 rest b n).length := by rw [take1_len]; exact hsl
      have eps2 := iAt hsl2
      rw [e1] at eps2
      have eps3 := iAt (ps := dealStep rest (b, s, n)) (k := s) (by rw [dealStep_len]; exact hsl)
      have n1 : 0 < n := by have := hs.2.2; (first | lia | omega)
      (repeat walk_at "mine_step")
      refine zqa it42 (by first | assumption | exact ⟨by (first | lia | omega), by (first | lia | omega)⟩) eSt ?_
      dsimp only [natV]
      (repeat walk_at "mine_step")
      refine zqa it40 (by first | assumption | exact ⟨by (first | lia | omega), by (first | lia | omega)⟩) epb ?_
      (repeat walk_at "mine_step")
      refine zqa it40 (by first | assumption | exact ⟨by (first | lia | omega), by (first | lia | omega)⟩) eps ?_
      (repeat walk_at "mine_step")
      dsimp only [minT, vInt]
      (repeat walk_at "mine_step")
      rw [hn2]
      (repeat walk_at "mine_step")
      refine zqj it43 m_append ?_
      (repeat walk_at "mine_step")
      refine ⟨_, get43, by simp; (first | lia | omega), ?_⟩
      rw [set43]
      (repeat walk_at "mine_step")
      refine zqa it40 (by first | assumption | exact ⟨by (first | lia | omega), by (first | lia | omega)⟩) epb ?_
      (repeat walk_at "mine_step")
      refine zqi get40 (by first | assumption | exact ⟨by (first | lia | omega), by (first | lia | omega)⟩) (by rw [List.length_map]; (first | lia | omega)) ?_
      rw [set40, set_ints, show rest.set b (rest.getD b 0 - n) = take1 rest b n from rfl]
      (repeat walk_at "mine_step")
      refine zqa it40 (by first | assumption | exact ⟨by (first | lia | omega), by (first | lia | omega)⟩) eps2 ?_
      (repeat walk_at "mine_step")
      refine zqi get40 (by first | assumption | exact ⟨by (first | lia | omega), by (first | lia | omega)⟩) (by rw [List.length_map]; (first | lia | omega)) ?_
      rw [set40, set_ints, show (take1 rest b n).set s (rest.getD s 0 - n) = dealStep rest (b, s, n) by unfold dealStep; dsimp only; unfold take1 at e1 ⊢; rw [e1]]
      (repeat walk_at "mine_step")
      refine zqa it40 (by first | assumption | exact ⟨by (first | lia | omega), by (first | lia | omega)⟩) eps3 ?_
      (repeat walk_at "mine_step")
      have ef : found.map dealV ++ [V.d (PyData.tuple [PyData.int (b : Nat), PyData.int (s : Nat), PyData.int n])] = (found ++ [(b, s, n)]).map dealV := by rw [List.map_append]; rfl
      rw [ef]
      refine ⟨fun hz => ?_, fun hz => ?_⟩
      · have hz := of_decide_eq_true hz
        rw [if_pos hz, es2] at pd cd
        (repeat walk_at "mine_step")
        refine ⟨_, ?_, dealStep rest (b, s, n), at' + 1, _, rfl, pd, cd, rfl, by ((repeat walk_at "mine_look"); done), by ((repeat walk_at "mine_look"); done), by ((repeat walk_at "mine_look"); done), ?_, by ((repeat walk_at "mine_look"); done)⟩
        · rw [gb]; (first | lia | omega)
        · exact Eq.trans (b := some (.d (.int ((at' : Int) + 1)))) (by ((repeat walk_at "mine_look"); done)) rfl
      · have hz := of_decide_eq_false hz
        rw [if_neg hz, ← eS] at pd cd
        (repeat walk_at "mine_step")
        refine ⟨_, ?_, dealStep rest (b, s, n), at', _, rfl, pd, cd, rfl, by ((repeat walk_at "mine_look"); done), by ((repeat walk_at "mine_look"); done), by ((repeat walk_at "mine_look"); done), by ((repeat walk_at "mine_look"); done), by ((repeat walk_at "mine_look"); done)⟩
        rw [gb]; (first | lia | omega)
    · have hc := of_decide_eq_false hc
      (repeat walk_at "mine_step")
      exact ⟨rest, at', found, rfl, pi.next (by (first | lia | omega)), Nat.le_trans cnt_next pc, by ((repeat walk_at "mine_look"); done), by ((repeat walk_at "mine_look"); done), by ((repeat walk_at "mine_look"); done), by ((repeat walk_at "mine_look"); done)⟩
  · rintro m _ ⟨rest, at', found, rfl, pi, pc, m1, m2, m3, m4⟩
    rw [List.drop_length] at pi pc
    have hfl : found.length ≤ 2 * ws.length := by unfold cntP at pc; (first | lia | omega)
    (repeat walk_at "mine_step")
    refine ret_list Grown.refl.snoc.snoc.snoc.snoc (by (first | lia | omega)) get43 ?_ (hK found ⟨pi.walk ▸ pi.done, pi.good, pi.rise, hfl⟩)
    intro v hv
    obtain ⟨d, _, rfl⟩ := List.mem_map.mp hv
    exact ⟨_, rfl⟩

set_option Elab.async false
set_option autoImplicit false
set_option linter.unusedVariables false
set_option linter.unusedSimpArgs false
set_option maxRecDepth 100000
open PySem PySem.Spec PySem.Calls PyProof.Rows
set_option maxHeartbeats 4000000 in
theorem v_cell_at {fam : List Str} {X : Cx} {k : Nat} (cx : CxOk X) (calm : 100 ≤ k) (zipk : X.val ("zip" : Str) = some (.type "zip")) (h_len : ValidF X k ("len" : Str) lenT) {nm : Str} {ps : Arguments} {body : List Stmt} {dl : List Expr} {re : Option Expr} {tp} {sc : Scope} {tc} {q : Str} {pos : Pos}
    (hs : prg.main.body[26]? = some (.FunctionDef nm ps body dl re tp sc tc q pos)) (hf : IsFn X ("_law_cell_at" : Str) (ps.args.map (·.arg)) body sc) : ValidF X (k + 1) ("_law_cell_at" : Str) cell_atT := by
  cases hs
  have hf : IsFn X ("_law_cell_at" : Str) ["_law_script", "_law_k"] _ _ := hf
  refine valid_fn cx hf (by decide +kernel) ?_
  rintro _ σ K ⟨i, ns, j, rfl, h1, h2, hK⟩
  refine ⟨rfl, fun env => ?_⟩
  dsimp only
  (repeat walk_at "mine_step")
  refine ⟨_, h1, by simpa using h2, ?_⟩
  (repeat walk_at "mine_step")
  refine ⟨fun hc => ?_, fun hc => ?_⟩
  · (repeat walk_at "mine_step")
    have hc := of_decide_eq_true hc
    rw [List.length_map] at hc
    refine zqa h1 (by (first | lia | omega)) (getD_vInt (by (first | lia | omega))) ?_
    (repeat walk_at "mine_step")
    exact ret_data .refl hK
  · (repeat walk_at "mine_step")
    have hc := of_decide_eq_false hc
    rw [List.length_map] at hc
    have : cellAt ns j = 0 := by unfold cellAt; rw [List.getD_eq_getElem?_getD, List.getElem?_eq_none (by (first | lia | omega))]; rfl
    rw [this] at hK
    exact ret_data .refl hK
set_option maxHeartbeats 4000000 in
theorem v_whole {fam : List Str} {X : Cx} {k : Nat} (cx : CxOk X) (calm : 100 ≤ k) (zipk : X.val ("zip" : Str) = some (.type "zip")) (h_isi : ValidF X k ("isinstance" : Str) (isiT fam)) (k_int : Known X ("int" : Str)) (k_bool : Known X ("bool" : Str)) {nm : Str} {ps : Arguments} {body : List Stmt} {dl : List Expr} {re : Option Expr} {tp} {sc : Scope} {tc} {q : Str} {pos : Pos}
    (hs : prg.main.body[27]? = some (.FunctionDef nm ps body dl re tp sc tc q pos)) (hf : IsFn X ("_law_whole" : Str) (ps.args.map (·.arg)) body sc) : ValidF X (k + 1) ("_law_whole" : Str) wholeT := by
  cases hs
  have hf : IsFn X ("_law_whole" : Str) ["_law_thing"] _ _ := hf
  refine valid_fn cx hf (by decide +kernel) ?_
  rintro _ σ K ⟨i, rfl, hK⟩
  refine ⟨rfl, fun env => ?_⟩
  dsimp only
  (repeat walk_at "mine_step")
  refine ⟨true, isi_int (by decide +kernel), ?_⟩
  (repeat walk_at "mine_step")
  refine ⟨false, isi_int (by decide +kernel), ?_⟩
  (repeat walk_at "mine_step")
  exact ret_data .refl hK
set_option maxHeartbeats 4000000 in
theorem v_wish_by {fam : List Str} {X : Cx} {k : Nat} (cx : CxOk X) (calm : 100 ≤ k) (zipk : X.val ("zip" : Str) = some (.type "zip")) {nm : Str} {ps : Arguments} {body : List Stmt} {dl : List Expr} {re : Option Expr} {tp} {sc : Scope} {tc} {q : Str} {pos : Pos}
    (hs : prg.main.body[28]? = some (.FunctionDef nm ps body dl re tp sc tc q pos)) (hf : IsFn X ("_law_wish_by" : Str) (ps.args.map (·.arg)) body sc) : ValidF X (k + 1) ("_law_wish_by" : Str) wish_byT := by
  cases hs
  have hf : IsFn X ("_law_wish_by" : Str) ["_law_cell"] _ _ := hf
  refine valid_fn cx hf (by decide +kernel) ?_
  rintro _ σ K ⟨c, rfl, hK⟩
  refine ⟨rfl, fun env => ?_⟩
  dsimp only
  (repeat walk_at "mine_step")
  apply if_joinS ("_law_side_here" : Str)
  focus (((repeat walk_at "mine_look"); done))
  focus
    intro hc R hr
    (repeat walk_at "mine_step")
    exact hr
  (repeat walk_at "mine_step")
  apply if_joinI ("_law_limit" : Str)
  focus (((repeat walk_at "mine_look"); done))
  focus
    intro hc R hr
    (repeat walk_at "mine_step")
    exact hr
  (repeat walk_at "mine_step")
  apply if_joinG ("_law_limit" : Str)
  focus (((repeat walk_at "mine_look"); done))
  · intro hc R hr
    (repeat walk_at "mine_step")
    refine zqa itemsAt_new (by (first | lia | omega)) (pick_int [0, 1, 999999999, 1000000000] (by simp; (first | lia | omega))) ?_
    (repeat walk_at "mine_step")
    exact hr _ Grown.refl.snoc
  intro τ hg
  (repeat walk_at "mine_step")
  apply if_joinI ("_law_amount" : Str)
  focus (((repeat walk_at "mine_look"); done))
  focus
    intro hc R hr
    (repeat walk_at "mine_step")
    exact hr
  (repeat walk_at "mine_step")
  apply if_joinI ("_law_amount" : Str)
  focus (((repeat walk_at "mine_look"); done))
  focus
    intro hc R hr
    (repeat walk_at "mine_step")
    exact hr
  (repeat walk_at "mine_step")
  refine ret_data hg ?_
  exact (wishF_v c) ▸ hK
set_option maxHeartbeats 4000000 in
theorem v_wishes_by {fam : List Str} {X : Cx} {k : Nat} (cx : CxOk X) (calm : 100 ≤ k) (zipk : X.val ("zip" : Str) = some (.type "zip")) (h_len : ValidF X k ("len" : Str) lenT) (h_wish_by : ValidF X k ("_law_wish_by" : Str) wish_byT) (h_cell_at : ValidF X k ("_law_cell_at" : Str) cell_atT) (h_range : ValidF X k ("range" : Str) rangeT) (m_append : ValidM X k "list" ("append" : Str) appendT) {nm : Str} {ps : Arguments} {body : List Stmt} {dl : List Expr} {re : Option Expr} {tp} {sc : Scope} {tc} {q : Str} {pos : Pos}
    (hs : prg.main.body[29]? = some (.FunctionDef nm ps body dl re tp sc tc q pos)) (hf : IsFn X ("_law_wishes_by" : Str) (ps.args.map (·.arg)) body sc) : ValidF X (k + 1) ("_law_wishes_by" : Str) wishes_byT := by
  cases hs
  have hf : IsFn X ("_law_wishes_by" : Str) ["_law_script", "_law_first", "_law_few"] _ _ := hf
  refine valid_fn cx hf (by decide +kernel) ?_
  rintro _ σ K ⟨i, ns, first, few, rfl, h1, h2', hK⟩
  have h2 : ns.length ≤ 1000000 := by (first | lia | omega)
  refine ⟨rfl, fun env => ?_⟩
  dsimp only
  (repeat walk_at "mine_step")
  refine ⟨_, h1, by simpa using h2, ?_⟩
  (repeat walk_at "mine_step")
  apply if_joinI ("_law_many" : Str)
  focus (((repeat walk_at "mine_look"); done))
  focus
    intro hc R hr
    (repeat walk_at "mine_step")
    exact hr
  have em : (if decide ((63 : Int) < ((ns.map vInt).length : Nat)) = true then (150 : Int) else (few : Int)) = ((manyF ns few : Nat) : Int) := by
    rw [List.length_map]; unfold manyF
    by_cases h : 63 < ns.length
    · rw [if_pos h, if_pos (by simpa using (by (first | lia | omega) : (63 : Int) < ns.length))]; rfl
    · rw [if_neg h, if_neg (by simpa using (by (first | lia | omega) : (ns.length : Int) ≤ 63))]
  rw [em]
  (repeat walk_at "mine_step")
  refine zqam h1 (by simpa using h2) ?_
  rw [show (first : Int) + (manyF ns few : Nat) = ((first + manyF ns few : Nat) : Int) by (first | lia | omega), slice_nat]
  (repeat walk_at "mine_step")
  refine comp_src ((ns.drop first).take (manyF ns few)) vInt (fun c => some (wishF c).v) (src_ref (by rw [itemsAt_new, List.map_take, List.map_drop])) (by simp; (first | lia | omega)) ?_ ?_
  · intro c _ env' Y N hY hN
    dsimp only [vInt]
    (repeat walk_at "mine_step")
    refine ⟨c, rfl, ?_⟩
    exact hY _ rfl
  rw [filterMap_some]
  (repeat walk_at "mine_step")
  refine ⟨i, ns, 0, rfl, (Grown.refl.snoc.snoc).items h1, h2, ?_⟩
  (repeat walk_at "mine_step")
  generalize hsl : ((ns.map vInt).drop first).take (manyF ns few) = sl
  generalize hws : ((ns.drop first).take (manyF ns few)).map wishF = ws
  have hws' : ((ns.drop first).take (manyF ns few)).map (fun c => (wishF c).v) = ws.map Wish.v := by rw [← hws, List.map_map]; rfl
  rw [hws']
  have fin : ∀ es, extraF ns = es → retK σ K (.ret (.ref (σ ++ [Cell.lst sl]).length) (σ ++ [Cell.lst sl] ++ [Cell.lst (ws.map Wish.v ++ es.map Wish.v)])) := by
    intro es he
    refine ret_list Grown.refl.snoc.snoc (by simp) get_new (by rw [← List.map_append]; exact v_data) ?_
    rw [← List.map_append, ← he, ← hws]
    exact hK
  refine ⟨fun hc => ?_, fun hc => ?_⟩
  · (repeat walk_at "mine_step")
    refine ⟨i, ns, 1, rfl, (Grown.refl.snoc.snoc).items h1, h2, ?_⟩
    (repeat walk_at "mine_step")
    refine ⟨by (first | lia | omega), ?_⟩
    have hn : (20 + cellAt ns 1 % 30 : Int) = ((20 + cellAt ns 1 % 30).toNat : Nat) := by (first | lia | omega)
    rw [hn]
    generalize hn' : (20 + cellAt ns 1 % 30).toNat = n at *
    have hn50 : n ≤ 50 := by (first | lia | omega)
    (repeat walk_at "mine_step")
    refine for_src (List.range n) (fun k => vInt k) (fun k m σ' => σ' = σ ++ [Cell.lst sl] ++ [Cell.lst (ws.map Wish.v ++ ((List.range k).map fun j => wishF (cellAt ns 1 + 8191 * (j : Nat))).map Wish.v)] ∧ m ("_law_script" : Str) = some (.ref i) ∧ m ("_law_wishes" : Str) = some (.ref (σ ++ [Cell.lst sl]).length))
      ⟨by simp, by ((repeat walk_at "mine_look"); done), by ((repeat walk_at "mine_look"); done)⟩ (fun k m σ' _ => src_rng k) ?_ ?_
    · rintro k hk m _ ⟨rfl, hm1, hm2⟩
      dsimp only [vInt]
      (repeat walk_at "mine_step")
      refine zqj itemsAt_new m_append ?_
      (repeat walk_at "mine_step")
      refine ⟨i, ns, 1, rfl, (Grown.refl.snoc.snoc).items h1, h2, ?_⟩
      (repeat walk_at "mine_step")
      refine ⟨_, rfl, ?_⟩
      (repeat walk_at "mine_step")
      rw [List.length_range] at hk
      have hkb : 0 ≤ (k : Int) ∧ (k : Int) < 2 ^ 63 := ix hk (by (first | lia | omega))
      refine ⟨_, get_new, ?_, ?_⟩
      · have : ws.length ≤ ns.length := by rw [← hws]; simp; (first | lia | omega)
        simp; (first | lia | omega)
      rw [set_new, List.getElem_range]
      (repeat walk_at "mine_step")
      refine ⟨?_, by ((repeat walk_at "mine_look"); done), by ((repeat walk_at "mine_look"); done)⟩
      rw [List.range_succ, List.map_append, List.map_append, ← List.append_assoc]
      rfl
    · rintro m _ ⟨rfl, hm1, hm2⟩
      (repeat walk_at "mine_step")
      rw [List.length_range]
      exact fin _ (by unfold extraF; rw [if_pos (of_decide_eq_true hc), ← hn'])
  · (repeat walk_at "mine_step")
    have := fin [] (by unfold extraF; rw [if_neg (of_decide_eq_false hc)])
    simpa using this
set_option maxHeartbeats 4000000 in
theorem v_price_by {fam : List Str} {X : Cx} {k : Nat} (cx : CxOk X) (calm : 100 ≤ k) (zipk : X.val ("zip" : Str) = some (.type "zip")) (h_len : ValidF X k ("len" : Str) lenT) (h_max : ValidF X k ("max" : Str) maxT) (h_min : ValidF X k ("min" : Str) minT) {nm : Str} {ps : Arguments} {body : List Stmt} {dl : List Expr} {re : Option Expr} {tp} {sc : Scope} {tc} {q : Str} {pos : Pos}
    (hs : prg.main.body[30]? = some (.FunctionDef nm ps body dl re tp sc tc q pos)) (hf : IsFn X ("_law_price_by" : Str) (ps.args.map (·.arg)) body sc) : ValidF X (k + 1) ("_law_price_by" : Str) price_byT := by
  cases hs
  have hf : IsFn X ("_law_price_by" : Str) ["_law_wishes", "_law_cell", "_law_other"] _ _ := hf
  refine valid_fn cx hf (by decide +kernel) ?_
  rintro _ σ K ⟨i, ws, cell, other, rfl, h1, h2, hK⟩
  have hK' : ∀ p : Int, K (.val (.d (.int (if 0 < (if p < 1000000000 then p else 1000000000) then (if p < 1000000000 then p else 1000000000) else 0))) σ) := fun p => hK _ (by split <;> split <;> (first | lia | omega))
  refine ⟨rfl, fun env => ?_⟩
  dsimp only
  (repeat walk_at "mine_step")
  apply if_joinI ("_law_price" : Str)
  focus (((repeat walk_at "mine_look"); done))
  focus
    intro hc R hr
    (repeat walk_at "mine_step")
    exact hr
  (repeat walk_at "mine_step")
  apply if_joinG ("_law_price" : Str)
  focus (((repeat walk_at "mine_look"); done))
  · intro hc R hr
    (repeat walk_at "mine_step")
    refine zqa itemsAt_new (by (first | lia | omega)) (pick_int [0, 1, 999999999, 1000000000] (by simp; (first | lia | omega))) ?_
    (repeat walk_at "mine_step")
    exact hr _ Grown.refl.snoc
  intro τ hg
  generalize (if decide (cell % 5 = 2) = true then _ else _ : Int) = pr
  (repeat walk_at "mine_step")
  refine zqb (fun h4 => ?_) (fun h4 => ?_)
  · (repeat walk_at "mine_step")
    refine ⟨_, hg.items h1, by simpa using h2, ?_⟩
    (repeat walk_at "mine_step")
    refine zqb (fun h5 => ?_) (fun h5 => ?_)
    · (repeat walk_at "mine_step")
      refine ⟨_, hg.items h1, by simpa using h2, ?_⟩
      (repeat walk_at "mine_step")
      have h5 := of_decide_eq_true h5
      rw [List.length_map] at h5 ⊢
      refine zqm (by (first | lia | omega)) ?_
      (repeat walk_at "mine_step")
      have hb : (other % (ws.length : Int)).toNat < ws.length := by
        have := Int.emod_lt_of_pos other h5
        have := Int.emod_nonneg other (by (first | lia | omega) : (ws.length : Int) ≠ 0)
        (first | lia | omega)
      refine zqa (hg.items h1) ⟨Int.emod_nonneg _ (by (first | lia | omega)), ?_⟩ (v := (ws[(other % (ws.length : Int)).toNat]).v) (by rw [List.getElem?_map, List.getElem?_eq_getElem hb]; rfl) ?_
      · have := Int.emod_lt_of_pos other h5
        (first | lia | omega)
      unfold Wish.v
      (repeat walk_at "mine_step")
      dsimp only [minT, vInt]
      (repeat walk_at "mine_step")
      dsimp only [maxT, vInt]
      (repeat walk_at "mine_step")
      exact ret_data hg (hK' _)
    · (repeat walk_at "mine_step")
      dsimp only [minT, vInt]
      (repeat walk_at "mine_step")
      dsimp only [maxT, vInt]
      (repeat walk_at "mine_step")
      exact ret_data hg (hK' _)
  · (repeat walk_at "mine_step")
    dsimp only [minT, vInt]
    (repeat walk_at "mine_step")
    dsimp only [maxT, vInt]
    (repeat walk_at "mine_step")
    exact ret_data hg (hK' _)
set_option maxHeartbeats 4000000 in
theorem v_pieces_by {fam : List Str} {X : Cx} {k : Nat} (cx : CxOk X) (calm : 100 ≤ k) (zipk : X.val ("zip" : Str) = some (.type "zip")) (h_len : ValidF X k ("len" : Str) lenT) (h_range : ValidF X k ("range" : Str) rangeT) (m_append : ValidM X k "list" ("append" : Str) appendT) {nm : Str} {ps : Arguments} {body : List Stmt} {dl : List Expr} {re : Option Expr} {tp} {sc : Scope} {tc} {q : Str} {pos : Pos}
    (hs : prg.main.body[31]? = some (.FunctionDef nm ps body dl re tp sc tc q pos)) (hf : IsFn X ("_law_pieces_by" : Str) (ps.args.map (·.arg)) body sc) : ValidF X (k + 1) ("_law_pieces_by" : Str) pieces_byT := by
  cases hs
  have hf : IsFn X ("_law_pieces_by" : Str) ["_law_wishes", "_law_cell"] _ _ := hf
  refine valid_fn cx hf (by decide +kernel) ?_
  rintro _ σ K ⟨i, ws, cell, rfl, h1, h2, ho, hK⟩
  refine ⟨rfl, fun env => ?_⟩
  dsimp only
  (repeat walk_at "mine_step")
  refine len_of (Grown.refl.snoc.items h1) (by (first | lia | omega)) ?_
  (repeat walk_at "mine_step")
  refine ⟨by (first | lia | omega), ?_⟩
  (repeat walk_at "mine_step")
  refine for_src (List.range ws.length) (fun k => vInt k) (fun k m σ' => ∃ ps : List Int, σ' = σ ++ [Cell.lst (ps.map vInt)] ∧ ps.length = k ∧ (∀ (k : Nat) (w : Wish) (n : Int), ws[k]? = some w → ps[k]? = some n → 0 ≤ n ∧ n ≤ w.amt) ∧
    m ("_law_wishes" : Str) = some (.ref i) ∧ m ("_law_cell" : Str) = some (.d (.int cell)) ∧ m ("_law_pieces" : Str) = some (.ref σ.length))
    ⟨[], by simp, rfl, by simp, by ((repeat walk_at "mine_look"); done), by ((repeat walk_at "mine_look"); done), by ((repeat walk_at "mine_look"); done)⟩ (fun k m σ' _ => src_rng k) ?_ ?_
  · rintro k hk m _ ⟨ps, rfl, hps, hfit, hm1, hm2, hm3⟩
    rw [List.length_range] at hk
    have hkb : 0 ≤ (k : Int) ∧ (k : Int) < 2 ^ 63 := ix hk (by (first | lia | omega))
    rw [List.getElem_range]
    dsimp only [vInt]
    have ok := ho _ (List.getElem_mem hk)
    have ew : ws[k]? = some ws[k] := List.getElem?_eq_getElem hk
    have ev : (ws.map Wish.v)[((k : Nat) : Int).toNat]? = some ws[k].v := by rw [Int.toNat_natCast, List.getElem?_map, ew]; rfl
    have snoc : ∀ n : Int, 0 ≤ n → n ≤ ws[k].amt → ∀ (j : Nat) (w : Wish) (n' : Int), ws[j]? = some w → (ps ++ [n])[j]? = some n' → 0 ≤ n' ∧ n' ≤ w.amt := by
      intro n n0 n1 j w n' q1 q2
      by_cases hj : j < ps.length
      · rw [List.getElem?_append_left hj] at q2; exact hfit j w n' q1 q2
      · have hl := (List.getElem?_eq_some_iff.mp q2).1
        simp at hl
        have : j = k := by (first | lia | omega)
        subst this
        rw [ew] at q1; cases q1
        rw [← hps] at q2
        simp at q2; subst q2
        exact ⟨n0, n1⟩
    generalize ws[k] = w at *
    have a1 := ok.2.2.1
    have a2 := ok.2.2.2
    (repeat walk_at "mine_step")
    refine zqa (Grown.refl.snoc.items h1) (by first | assumption | exact ⟨by (first | lia | omega), by (first | lia | omega)⟩) ev ?_
    unfold Wish.v
    (repeat walk_at "mine_step")
    generalize (cell + 7919 * (k : Int)) * 48271 % 2147483647 = far
    refine zqm (by (first | lia | omega)) ?_
    have e0 := Int.emod_nonneg (far / 7) (show w.amt + 1 ≠ 0 by (first | lia | omega))
    have e1 := Int.emod_lt_of_pos (far / 7) (show 0 < w.amt + 1 by (first | lia | omega))
    (repeat walk_at "mine_step")
    apply if_joinI ("_law_many" : Str)
    focus (((repeat walk_at "mine_look"); done))
    focus
      intro hc R hr
      (repeat walk_at "mine_step")
      exact hr
    obtain ⟨n, en, n0, n1⟩ : ∃ n : Int, (if decide (far % 7 < 2) = true then 0 else far / 7 % (w.amt + 1)) = n ∧ 0 ≤ n ∧ n ≤ w.amt := ⟨_, rfl, by split <;> (first | lia | omega), by split <;> (first | lia | omega)⟩
    rw [en]
    (repeat walk_at "mine_step")
    refine zqb (fun q => ?_) (fun q => ?_)
    rotate_left
    (repeat walk_at "mine_step")
    refine zqb (fun q2 => ?_) (fun q2 => ?_)
    all_goals (repeat walk_at "mine_step")
    all_goals first
      | (refine zqa (Grown.refl.snoc.items h1) (by first | assumption | exact ⟨by (first | lia | omega), by (first | lia | omega)⟩) ev ?_
         unfold Wish.v
         (repeat walk_at "mine_step"))
      | skip
    all_goals refine zqj itemsAt_new m_append ?_
    all_goals (repeat walk_at "mine_step")
    all_goals refine ⟨_, get_new, by simp; (first | lia | omega), ?_⟩
    all_goals rw [set_new]
    all_goals (repeat walk_at "mine_step")
    all_goals first
      | (refine ⟨ps ++ [n], ?_, by simp [hps], snoc n n0 n1, by ((repeat walk_at "mine_look"); done), by ((repeat walk_at "mine_look"); done), by ((repeat walk_at "mine_look"); done)⟩
         rw [List.map_append]; rfl)
      | (refine ⟨ps ++ [w.amt], ?_, by simp [hps], snoc w.amt (by (first | lia | omega)) (by (first | lia | omega)), by ((repeat walk_at "mine_look"); done), by ((repeat walk_at "mine_look"); done), by ((repeat walk_at "mine_look"); done)⟩
         rw [List.map_append]; rfl)
  · rintro m _ ⟨ps, rfl, hps, hfit, hm1, hm2, hm3⟩
    rw [List.length_range] at hps
    (repeat walk_at "mine_step")
    exact ret_list Grown.refl.snoc (Nat.le_refl _) get_new (by simp [vInt]) (hK ps ⟨hps, hfit⟩)
set_option maxHeartbeats 4000000 in
theorem v_lside {fam : List Str} {X : Cx} {k : Nat} (cx : CxOk X) (calm : 100 ≤ k) (zipk : X.val ("zip" : Str) = some (.type "zip")) (h_sum : ValidF X k ("sum" : Str) sumT) (h_range : ValidF X k ("range" : Str) rangeT) (h_len : ValidF X k ("len" : Str) lenT) {nm : Str} {ps : Arguments} {body : List Stmt} {dl : List Expr} {re : Option Expr} {tp} {sc : Scope} {tc} {q : Str} {pos : Pos}
    (hs : prg.main.body[32]? = some (.FunctionDef nm ps body dl re tp sc tc q pos)) (hf : IsFn X ("_law_side" : Str) (ps.args.map (·.arg)) body sc) : ValidF X (k + 1) ("_law_side" : Str) lsideT := by
  cases hs
  have hf : IsFn X ("_law_side" : Str) ["_law_wishes", "_law_pieces", "_law_side_here"] _ _ := hf
  refine valid_fn cx hf (by decide +kernel) ?_
  rintro _ σ K ⟨i, j, ws, ps, b, rfl, h1, h2, h3, h4, hK⟩
  refine ⟨rfl, fun env => ?_⟩
  dsimp only
  have hsb := sideS_ok b
  (repeat walk_at "mine_step")
  refine len_of (h1) (by (first | lia | omega)) ?_
  (repeat walk_at "mine_step")
  refine ⟨by (first | lia | omega), ?_⟩
  (repeat walk_at "mine_step")
  refine comp_src (List.range ws.length) (fun k => vInt k) (fun k => if (wAt ws k).buy == b then some (vInt (ps.getD k 0)) else none) (fun k => src_rng k) (by simpa using h2) ?_ ?_
  · intro k hk env' Y N hY hN
    have hk := List.mem_range.mp hk
    have hso := side_ok (wAt ws k)
    have ev := vAt hk
    have ep := iAt (ps := ps) (k := k) (by (first | lia | omega))
    dsimp only [vInt]
    (repeat walk_at "mine_step")
    refine zqa h1 (by first | assumption | exact ⟨by (first | lia | omega), by (first | lia | omega)⟩) ev ?_
    unfold Wish.v
    (repeat walk_at "mine_step")
    rw [side_beq]
    refine zqb (fun hb => ?_) (fun hb => ?_)
    · (repeat walk_at "mine_step")
      refine zqa h3 (by first | assumption | exact ⟨by (first | lia | omega), by (first | lia | omega)⟩) ep ?_
      exact hY _ (by rw [hb]; rfl)
    · (repeat walk_at "mine_step")
      exact hN (by rw [hb]; rfl)
  · (repeat walk_at "mine_step")
    refine ⟨_, itemsAt_new.trans (congrArg some side_items), ?_⟩
    (repeat walk_at "mine_step")
    exact ret_data Grown.refl.snoc hK
set_option maxHeartbeats 4000000 in
theorem v_evened {fam : List Str} {X : Cx} {k : Nat} (cx : CxOk X) (calm : 100 ≤ k) (zipk : X.val ("zip" : Str) = some (.type "zip")) (h_lside : ValidF X k ("_law_side" : Str) lsideT) (h_len : ValidF X k ("len" : Str) lenT) (h_range : ValidF X k ("range" : Str) rangeT) (h_min : ValidF X k ("min" : Str) minT) (m_append : ValidM X k "list" ("append" : Str) appendT) {nm : Str} {ps : Arguments} {body : List Stmt} {dl : List Expr} {re : Option Expr} {tp} {sc : Scope} {tc} {q : Str} {pos : Pos}
    (hs : prg.main.body[33]? = some (.FunctionDef nm ps body dl re tp sc tc q pos)) (hf : IsFn X ("_law_evened" : Str) (ps.args.map (·.arg)) body sc) : ValidF X (k + 1) ("_law_evened" : Str) evenedT := by
  cases hs
  have hf : IsFn X ("_law_evened" : Str) ["_law_wishes", "_law_pieces"] _ _ := hf
  refine valid_fn cx hf (by decide +kernel) ?_
  rintro _ σ K ⟨i, j, ws, ps, rfl, h1, h2', h3, hf, hK⟩
  have h2 : ws.length ≤ 1000000 := by (first | lia | omega)
  have hl := hf.1
  refine ⟨rfl, fun env => ?_⟩
  dsimp only
  (repeat walk_at "mine_step")
  refine ⟨i, j, ws, ps, true, rfl, h1, h2, h3, hl, ?_⟩
  (repeat walk_at "mine_step")
  refine ⟨i, j, ws, ps, false, rfl, h1, h2, h3, hl, ?_⟩
  (repeat walk_at "mine_step")
  refine len_of (Grown.refl.snoc.items h1) (by (first | lia | omega)) ?_
  (repeat walk_at "mine_step")
  refine ⟨by (first | lia | omega), ?_⟩
  (repeat walk_at "mine_step")
  refine for_src (List.range ws.length) (fun k => vInt k) (fun k m σ' => ∃ (qs : List Int) (over : Int), σ' = σ ++ [Cell.lst (qs.map vInt)] ∧ EInv ws ps qs over k ∧ m ("_law_wishes" : Str) = some (.ref i) ∧ m ("_law_pieces" : Str) = some (.ref j) ∧ m ("_law_found" : Str) = some (.ref σ.length) ∧ m ("_law_over" : Str) = some (.d (.int over)))
    ⟨[], _, rfl, EInv.start hl, by ((repeat walk_at "mine_look"); done), by ((repeat walk_at "mine_look"); done), by ((repeat walk_at "mine_look"); done), by ((repeat walk_at "mine_look"); done)⟩ (fun k m σ' _ => src_rng k) ?_ ?_
  · rintro k hk m _ ⟨qs, over, rfl, ei, m1, m2, m3, m4⟩
    rw [List.length_range] at hk
    have hkb : 0 ≤ (k : Int) ∧ (k : Int) < 2 ^ 63 := ix hk (by (first | lia | omega))
    rw [List.getElem_range]
    dsimp only [vInt]
    have ev := vAt hk
    have ep := iAt (ps := ps) (k := k) (by (first | lia | omega))
    have hso := side_ok (wAt ws k)
    have hq := ei.len
    have esn := fun {less over' : Int} => ei.snoc (less := less) (over' := over') hk hl (fits_at hf hk)
    have hw := fits_at hf hk
    generalize hwk : wAt ws k = w at *
    generalize ps.getD k 0 = n at *
    (repeat walk_at "mine_step")
    refine zqa (Grown.refl.snoc.items h1) (by first | assumption | exact ⟨by (first | lia | omega), by (first | lia | omega)⟩) ev ?_
    unfold Wish.v at ev ⊢
    (repeat walk_at "mine_step")
    rw [buy_beq]
    cases hb : w.buy
    · (repeat walk_at "mine_step")
      refine zqa (Grown.refl.snoc.items h1) (by first | assumption | exact ⟨by (first | lia | omega), by (first | lia | omega)⟩) ev ?_
      (repeat walk_at "mine_step")
      rw [sell_beq, hb]
      (repeat walk_at "mine_step")
      by_cases c : over < 0
      · rw [decide_eq_true c]
        (repeat walk_at "mine_step")
        refine zqa (Grown.refl.snoc.items h3) (by first | assumption | exact ⟨by (first | lia | omega), by (first | lia | omega)⟩) ep ?_
        (repeat walk_at "mine_step")
        dsimp only [minT, vInt]
        (repeat walk_at "mine_step")
        refine zqj itemsAt_new m_append ?_
        (repeat walk_at "mine_step")
        refine zqa (Grown.refl.snoc.items h3) (by first | assumption | exact ⟨by (first | lia | omega), by (first | lia | omega)⟩) ep ?_
        (repeat walk_at "mine_step")
        refine ⟨_, get_new, by simp; (first | lia | omega), ?_⟩
        rw [set_new]
        (repeat walk_at "mine_step")
        refine ⟨_, _, ?_, esn (less := if -over < n then -over else n) (over' := over + (if -over < n then -over else n)) (.inr (.inl ⟨hb, c, by split <;> (first | lia | omega), rfl⟩)), by ((repeat walk_at "mine_look"); done), by ((repeat walk_at "mine_look"); done), by ((repeat walk_at "mine_look"); done), by ((repeat walk_at "mine_look"); done)⟩
        rw [List.map_append]; rfl
      · rw [decide_eq_false c]
        (repeat walk_at "mine_step")
        refine zqj itemsAt_new m_append ?_
        (repeat walk_at "mine_step")
        refine zqa (Grown.refl.snoc.items h3) (by first | assumption | exact ⟨by (first | lia | omega), by (first | lia | omega)⟩) ep ?_
        (repeat walk_at "mine_step")
        refine ⟨_, get_new, by simp; (first | lia | omega), ?_⟩
        rw [set_new]
        (repeat walk_at "mine_step")
        refine ⟨_, _, ?_, esn (less := 0) (over' := over) (.inr (.inr ⟨fun q => (by rw [hb] at q; cases q), fun _ => (by (first | lia | omega)), rfl, rfl⟩)), by ((repeat walk_at "mine_look"); done), by ((repeat walk_at "mine_look"); done), by ((repeat walk_at "mine_look"); done), by ((repeat walk_at "mine_look"); done)⟩
        rw [List.map_append]; rfl
    · (repeat walk_at "mine_step")
      by_cases c : 0 < over
      · rw [decide_eq_true c]
        (repeat walk_at "mine_step")
        refine zqa (Grown.refl.snoc.items h3) (by first | assumption | exact ⟨by (first | lia | omega), by (first | lia | omega)⟩) ep ?_
        (repeat walk_at "mine_step")
        dsimp only [minT, vInt]
        (repeat walk_at "mine_step")
        refine zqj itemsAt_new m_append ?_
        (repeat walk_at "mine_step")
        refine zqa (Grown.refl.snoc.items h3) (by first | assumption | exact ⟨by (first | lia | omega), by (first | lia | omega)⟩) ep ?_
        (repeat walk_at "mine_step")
        refine ⟨_, get_new, by simp; (first | lia | omega), ?_⟩
        rw [set_new]
        (repeat walk_at "mine_step")
        refine ⟨_, _, ?_, esn (less := if over < n then over else n) (over' := over - (if over < n then over else n)) (.inl ⟨hb, c, by split <;> (first | lia | omega), rfl⟩), by ((repeat walk_at "mine_look"); done), by ((repeat walk_at "mine_look"); done), by ((repeat walk_at "mine_look"); done), by ((repeat walk_at "mine_look"); done)⟩
        rw [List.map_append]; rfl
      · rw [decide_eq_false c]
        (repeat walk_at "mine_step")
        refine zqa (Grown.refl.snoc.items h1) (by first | assumption | exact ⟨by (first | lia | omega), by (first | lia | omega)⟩) ev ?_
        (repeat walk_at "mine_step")
        rw [sell_beq, hb]
        (repeat walk_at "mine_step")
        refine zqj itemsAt_new m_append ?_
        (repeat walk_at "mine_step")
        refine zqa (Grown.refl.snoc.items h3) (by first | assumption | exact ⟨by (first | lia | omega), by (first | lia | omega)⟩) ep ?_
        (repeat walk_at "mine_step")
        refine ⟨_, get_new, by simp; (first | lia | omega), ?_⟩
        rw [set_new]
        (repeat walk_at "mine_step")
        refine ⟨_, _, ?_, esn (less := 0) (over' := over) (.inr (.inr ⟨fun _ => (by (first | lia | omega)), fun q => (by rw [hb] at q; cases q), rfl, rfl⟩)), by ((repeat walk_at "mine_look"); done), by ((repeat walk_at "mine_look"); done), by ((repeat walk_at "mine_look"); done), by ((repeat walk_at "mine_look"); done)⟩
        rw [List.map_append]; rfl
  · rintro m _ ⟨qs, over, rfl, ei, m1, m2, m3, m4⟩
    rw [List.length_range] at ei
    (repeat walk_at "mine_step")
    have ee := ei.end hl
    exact ret_list Grown.refl.snoc (Nat.le_refl _) get_new (by simp [vInt]) (hK qs (fits_of ee.1 ei.fit) ee.2)
set_option maxHeartbeats 4000000 in
theorem v_numbers {fam : List Str} {X : Cx} {k : Nat} (cx : CxOk X) (calm : 100 ≤ k) (zipk : X.val ("zip" : Str) = some (.type "zip")) (h_isi : ValidF X k ("isinstance" : Str) (isiT fam)) (h_len : ValidF X k ("len" : Str) lenT) (h_whole : ValidF X k ("_law_whole" : Str) wholeT) (k_list : Known X ("list" : Str)) {nm : Str} {ps : Arguments} {body : List Stmt} {dl : List Expr} {re : Option Expr} {tp} {sc : Scope} {tc} {q : Str} {pos : Pos}
    (hs : prg.main.body[34]? = some (.FunctionDef nm ps body dl re tp sc tc q pos)) (hf : IsFn X ("_law_numbers" : Str) (ps.args.map (·.arg)) body sc) : ValidF X (k + 1) ("_law_numbers" : Str) numbersT := by
  cases hs
  have hf : IsFn X ("_law_numbers" : Str) ["_law_found", "_law_many"] _ _ := hf
  refine valid_fn cx hf (by decide +kernel) ?_
  rintro _ σ K ⟨j, ps, rfl, h1, h2, hK⟩
  refine ⟨rfl, fun env => ?_⟩
  dsimp only
  (repeat walk_at "mine_step")
  refine isi_of (isi_list h1) ?_
  (repeat walk_at "mine_step")
  refine ⟨_, h1, by simpa using h2, ?_⟩
  (repeat walk_at "mine_step")
  rw [List.length_map, decide_eq_true rfl]
  (repeat walk_at "mine_step")
  refine for_src ps vInt (fun k m σ' => σ' = σ) rfl (fun k m σ' h => src_ref (by rw [h, h1]) k) ?_ ?_
  · rintro k hk m _ rfl
    dsimp only [vInt]
    (repeat walk_at "mine_step")
    refine ⟨_, rfl, ?_⟩
    (repeat walk_at "mine_step")
    rfl
  · rintro m _ rfl
    (repeat walk_at "mine_step")
    exact ret_data .refl hK

set_option Elab.async false
set_option autoImplicit false
set_option linter.unusedVariables false
set_option linter.unusedSimpArgs false
set_option maxRecDepth 100000
open PySem PySem.Spec PySem.Calls PyProof.Rows
noncomputable def gainedT : Contract := fun vs σ K => ∃ (i j : Nat) (ws : List Wish) (ps : List Int) (p : Int), vs = [.ref i, .ref j, .d (.int p)] ∧ itemsAt σ i = some (ws.map Wish.v) ∧ ws.length ≤ 1000000 ∧ (∀ w ∈ ws, w.ok) ∧ itemsAt σ j = some (ps.map vInt) ∧ fitsF ws ps ∧ K (.val (.d (.int (gainedF ws ps p ws.length))) σ)
theorem gained_next {ws : List Wish} {ps : List Int} {p : Int} {k : Nat} : gainedF ws ps p (k + 1) = gainedF ws ps p k + gainAt (wAt ws k) p (ps.getD k 0) := by
  unfold gainedF
  rw [List.range_succ, List.map_append, List.sum_append]; simp
set_option maxHeartbeats 4000000 in
theorem v_gained {fam : List Str} {X : Cx} {k : Nat} (cx : CxOk X) (calm : 100 ≤ k) (zipk : X.val ("zip" : Str) = some (.type "zip")) (h_range : ValidF X k ("range" : Str) rangeT) (h_len : ValidF X k ("len" : Str) lenT) {nm : Str} {ps : Arguments} {body : List Stmt} {dl : List Expr} {re : Option Expr} {tp} {sc : Scope} {tc} {q : Str} {pos : Pos}
    (hs : prg.main.body[35]? = some (.FunctionDef nm ps body dl re tp sc tc q pos)) (hf : IsFn X ("_law_gained" : Str) (ps.args.map (·.arg)) body sc) : ValidF X (k + 1) ("_law_gained" : Str) gainedT := by
  cases hs
  have hf : IsFn X ("_law_gained" : Str) ["_law_wishes", "_law_pieces", "_law_price"] _ _ := hf
  refine valid_fn cx hf (by decide +kernel) ?_
  rintro _ σ K ⟨i, j, ws, ps, p, rfl, h1, h2, ho, h3, hf, hK⟩
  have hl := hf.1
  refine ⟨rfl, fun env => ?_⟩
  dsimp only
  (repeat walk_at "mine_step")
  refine len_of (h1) (by (first | lia | omega)) ?_
  (repeat walk_at "mine_step")
  refine ⟨by (first | lia | omega), ?_⟩
  (repeat walk_at "mine_step")
  refine for_src (List.range ws.length) natV (fun k m τ => τ = σ ∧ m ("_law_wishes" : Str) = some (.ref i) ∧ m ("_law_pieces" : Str) = some (.ref j) ∧ m ("_law_price" : Str) = some (.d (.int p)) ∧ m ("_law_total" : Str) = some (.d (.int (gainedF ws ps p k)))) ⟨rfl, by ((repeat walk_at "mine_look"); done), by ((repeat walk_at "mine_look"); done), by ((repeat walk_at "mine_look"); done), by ((repeat walk_at "mine_look"); done)⟩ (fun k m _ _ => src_rngN k) ?_ ?_
  · rintro k hk m _ ⟨rfl, m1, m2, m3, m4⟩
    rw [List.length_range] at hk
    have hkb : 0 ≤ (k : Int) ∧ (k : Int) < 2 ^ 63 := ix hk (by (first | lia | omega))
    rw [List.getElem_range]
    have ev := vAt hk
    have ep := iAt (ps := ps) (k := k) (by (first | lia | omega))
    have hfk := fits_at hf hk
    have hok : (wAt ws k).ok := by rw [wAt_eq hk]; exact ho _ (List.getElem_mem hk)
    have hnx := gained_next (ws := ws) (ps := ps) (p := p) (k := k)
    have hso := side_ok (wAt ws k)
    generalize wAt ws k = w at *
    generalize ps.getD k 0 = n at *
    have b1 : ∀ a, IntMulOk a n := fun a => .of_right (intBits_le_64 (by (first | lia | omega)) (by have := hok.2.2.2; (first | lia | omega)))
    unfold Wish.v at ev
    unfold gainAt at hnx
    dsimp only [natV]
    (repeat walk_at "mine_step")
    refine zqa h1 (by first | assumption | exact ⟨by (first | lia | omega), by (first | lia | omega)⟩) ev ?_
    (repeat walk_at "mine_step")
    rw [buy_beq]
    refine ⟨fun hb => ?_, fun hb => ?_⟩
    · rw [hb, if_pos rfl] at hnx
      (repeat walk_at "mine_step")
      refine zqa h1 (by first | assumption | exact ⟨by (first | lia | omega), by (first | lia | omega)⟩) ev ?_
      (repeat walk_at "mine_step")
      refine zqa h3 (by first | assumption | exact ⟨by (first | lia | omega), by (first | lia | omega)⟩) ep ?_
      (repeat walk_at "mine_step")
      refine zqo (b1 _) ?_
      (repeat walk_at "mine_step")
      exact ⟨rfl, by ((repeat walk_at "mine_look"); done), by ((repeat walk_at "mine_look"); done), by ((repeat walk_at "mine_look"); done), by rw [hnx]; ((repeat walk_at "mine_look"); done)⟩
    · rw [hb, if_neg (by decide)] at hnx
      (repeat walk_at "mine_step")
      refine zqa h1 (by first | assumption | exact ⟨by (first | lia | omega), by (first | lia | omega)⟩) ev ?_
      (repeat walk_at "mine_step")
      refine zqa h3 (by first | assumption | exact ⟨by (first | lia | omega), by (first | lia | omega)⟩) ep ?_
      (repeat walk_at "mine_step")
      refine zqo (b1 _) ?_
      (repeat walk_at "mine_step")
      exact ⟨rfl, by ((repeat walk_at "mine_look"); done), by ((repeat walk_at "mine_look"); done), by ((repeat walk_at "mine_look"); done), by rw [hnx]; ((repeat walk_at "mine_look"); done)⟩
  · rintro m _ ⟨rfl, m1, m2, m3, m4⟩
    rw [List.length_range] at m4
    (repeat walk_at "mine_step")
    exact ret_data .refl hK
noncomputable def roomF (ws : List Wish) (ps : List Int) (b : Bool) (r : Int) : Prop := r = -1 ∨ ∃ k : Nat, r = (k : Int) ∧ k < ws.length ∧ (wAt ws k).buy = b ∧ ps.getD k 0 < (wAt ws k).amt
noncomputable def bestT : Contract := fun vs σ K => ∃ (i j : Nat) (ws : List Wish) (ps : List Int) (b : Bool), vs = [.ref i, .ref j, .d (.str (sideS b))] ∧ itemsAt σ i = some (ws.map Wish.v) ∧ ws.length ≤ 1000000 ∧ itemsAt σ j = some (ps.map vInt) ∧ ps.length = ws.length ∧ ∀ r, roomF ws ps b r → K (.val (.d (.int r)) σ)
set_option maxHeartbeats 4000000 in
theorem v_best {fam : List Str} {X : Cx} {k : Nat} (cx : CxOk X) (calm : 100 ≤ k) (zipk : X.val ("zip" : Str) = some (.type "zip")) (h_range : ValidF X k ("range" : Str) rangeT) (h_len : ValidF X k ("len" : Str) lenT) {nm : Str} {ps : Arguments} {body : List Stmt} {dl : List Expr} {re : Option Expr} {tp} {sc : Scope} {tc} {q : Str} {pos : Pos}
    (hs : prg.main.body[36]? = some (.FunctionDef nm ps body dl re tp sc tc q pos)) (hf : IsFn X ("_law_best_with_room" : Str) (ps.args.map (·.arg)) body sc) : ValidF X (k + 1) ("_law_best_with_room" : Str) bestT := by
  cases hs
  have hf : IsFn X ("_law_best_with_room" : Str) ["_law_wishes", "_law_pieces", "_law_side_here"] _ _ := hf
  refine valid_fn cx hf (by decide +kernel) ?_
  rintro _ σ K ⟨i, j, ws, ps, b, rfl, h1, h2, h3, hl, hK⟩
  refine ⟨rfl, fun env => ?_⟩
  dsimp only
  have hsb := sideS_ok b
  (repeat walk_at "mine_step")
  refine len_of (h1) (by (first | lia | omega)) ?_
  (repeat walk_at "mine_step")
  refine ⟨by (first | lia | omega), ?_⟩
  (repeat walk_at "mine_step")
  refine for_src (List.range ws.length) natV (fun k m τ => τ = σ ∧ ∃ r, roomF ws ps b r ∧ m ("_law_wishes" : Str) = some (.ref i) ∧ m ("_law_pieces" : Str) = some (.ref j) ∧ m ("_law_side_here" : Str) = some (.d (.str (sideS b))) ∧ m ("_law_found" : Str) = some (.d (.int r))) ⟨rfl, -1, .inl rfl, by ((repeat walk_at "mine_look"); done), by ((repeat walk_at "mine_look"); done), by ((repeat walk_at "mine_look"); done), by ((repeat walk_at "mine_look"); done)⟩ (fun k m _ _ => src_rngN k) ?_ ?_
  · rintro k hk m _ ⟨rfl, r, hr, m1, m2, m3, m4⟩
    rw [List.length_range] at hk
    have hkb : 0 ≤ (k : Int) ∧ (k : Int) < 2 ^ 63 := ix hk (by (first | lia | omega))
    rw [List.getElem_range]
    have ev := vAt hk
    have ep := iAt (ps := ps) (k := k) (by (first | lia | omega))
    have hso := side_ok (wAt ws k)
    have hsb2 := side_beq (wAt ws k) b
    have rk : (wAt ws k).buy = b → ps.getD k 0 < (wAt ws k).amt → roomF ws ps b (k : Int) := fun q1 q2 => .inr ⟨k, rfl, hk, q1, q2⟩
    have hrv : r < 0 ∨ (0 ≤ r ∧ r < (ws.map Wish.v).length ∧ ∃ w : Wish, (ws.map Wish.v)[r.toNat]? = some w.v) := by
      rcases hr with q | ⟨k', q, q1, _⟩
      · exact .inl (by (first | lia | omega))
      · exact .inr ⟨by (first | lia | omega), by rw [List.length_map]; (first | lia | omega), wAt ws k', by rw [q]; exact vAt q1⟩
    generalize wAt ws k = w at *
    generalize ps.getD k 0 = n at *
    unfold Wish.v at ev
    dsimp only [natV]
    (repeat walk_at "mine_step")
    refine zqa h1 (by first | assumption | exact ⟨by (first | lia | omega), by (first | lia | omega)⟩) ev ?_
    (repeat walk_at "mine_step")
    rw [hsb2]
    refine zqb (fun hb => ?_) (fun hb => ?_)
    · (repeat walk_at "mine_step")
      refine zqa h3 (by first | assumption | exact ⟨by (first | lia | omega), by (first | lia | omega)⟩) ep ?_
      (repeat walk_at "mine_step")
      refine zqa h1 (by first | assumption | exact ⟨by (first | lia | omega), by (first | lia | omega)⟩) ev ?_
      (repeat walk_at "mine_step")
      refine zqb (fun hn => ?_) (fun hn => ?_)
      · have hnew := rk (beq_iff_eq.mp hb) (of_decide_eq_true hn)
        (repeat walk_at "mine_step")
        rcases hrv with c | ⟨c, c2, w2, ev2⟩
        · rw  [decide_eq_true c]
          cases b
          · (repeat walk_at "mine_step")
            rw  [decide_eq_true c]
            (repeat walk_at "mine_step")
            exact ⟨rfl, k, hnew, by ((repeat walk_at "mine_look"); done), by ((repeat walk_at "mine_look"); done), by ((repeat walk_at "mine_look"); done), by ((repeat walk_at "mine_look"); done)⟩
          · (repeat walk_at "mine_step")
            exact ⟨rfl, k, hnew, by ((repeat walk_at "mine_look"); done), by ((repeat walk_at "mine_look"); done), by ((repeat walk_at "mine_look"); done), by ((repeat walk_at "mine_look"); done)⟩
        · have c' : ¬ r < 0 := by (first | lia | omega)
          unfold Wish.v at ev2
          rw  [decide_eq_false c']
          (repeat walk_at "mine_step")
          refine zqa h1 (by first | assumption | exact ⟨by (first | lia | omega), by (first | lia | omega)⟩) ev ?_
          (repeat walk_at "mine_step")
          refine zqa h1 ⟨c, by rw [List.length_map] at c2; (first | lia | omega)⟩ ev2 ?_
          cases b
          · (repeat walk_at "mine_step")
            rw  [decide_eq_false c']
            (repeat walk_at "mine_step")
            refine zqa h1 (by first | assumption | exact ⟨by (first | lia | omega), by (first | lia | omega)⟩) ev ?_
            (repeat walk_at "mine_step")
            refine zqa h1 ⟨c, by rw [List.length_map] at c2; (first | lia | omega)⟩ ev2 ?_
            (repeat walk_at "mine_step")
            refine ⟨fun q => ?_, fun q => ?_⟩
            · (repeat walk_at "mine_step")
              exact ⟨rfl, k, hnew, by ((repeat walk_at "mine_look"); done), by ((repeat walk_at "mine_look"); done), by ((repeat walk_at "mine_look"); done), by ((repeat walk_at "mine_look"); done)⟩
            · (repeat walk_at "mine_step")
              exact ⟨rfl, r, hr, by ((repeat walk_at "mine_look"); done), by ((repeat walk_at "mine_look"); done), by ((repeat walk_at "mine_look"); done), by ((repeat walk_at "mine_look"); done)⟩
          · (repeat walk_at "mine_step")
            refine ⟨fun q => ?_, fun q => ?_⟩
            · (repeat walk_at "mine_step")
              exact ⟨rfl, k, hnew, by ((repeat walk_at "mine_look"); done), by ((repeat walk_at "mine_look"); done), by ((repeat walk_at "mine_look"); done), by ((repeat walk_at "mine_look"); done)⟩
            · (repeat walk_at "mine_step")
              exact ⟨rfl, r, hr, by ((repeat walk_at "mine_look"); done), by ((repeat walk_at "mine_look"); done), by ((repeat walk_at "mine_look"); done), by ((repeat walk_at "mine_look"); done)⟩
      · (repeat walk_at "mine_step")
        exact ⟨rfl, r, hr, by ((repeat walk_at "mine_look"); done), by ((repeat walk_at "mine_look"); done), by ((repeat walk_at "mine_look"); done), by ((repeat walk_at "mine_look"); done)⟩
    · (repeat walk_at "mine_step")
      exact ⟨rfl, r, hr, by ((repeat walk_at "mine_look"); done), by ((repeat walk_at "mine_look"); done), by ((repeat walk_at "mine_look"); done), by ((repeat walk_at "mine_look"); done)⟩
  · rintro m _ ⟨rfl, r, hr, m1, m2, m3, m4⟩
    (repeat walk_at "mine_step")
    exact ret_data .refl (hK r hr)
noncomputable def evenOk (ws : List Wish) (qs : List Int) : Prop := fitsF ws qs ∧ sideF ws qs true = sideF ws qs false
noncomputable def moreT : Contract := fun vs σ K => ∃ (i j : Nat) (ws : List Wish) (ps : List Int), vs = [.ref i, .ref j] ∧ itemsAt σ i = some (ws.map Wish.v) ∧ ws.length ≤ 900000 ∧ itemsAt σ j = some (ps.map vInt) ∧ evenOk ws ps ∧ ∀ qs : List Int, evenOk ws qs → K (.val (.ref σ.length) (σ ++ [.lst (qs.map vInt)]))
theorem even_two {ws : List Wish} {ps : List Int} (h : evenOk ws ps) {a b : Nat} (ha : a < ws.length) (hb : b < ws.length) (hab : a ≠ b) {x y : Int} (hx : 0 ≤ x ∧ x ≤ (wAt ws a).amt) (hy : 0 ≤ y ∧ y ≤ (wAt ws b).amt)
    (he : if (wAt ws a).buy == (wAt ws b).buy then x + y = ps.getD a 0 + ps.getD b 0 else x - ps.getD a 0 = y - ps.getD b 0) : evenOk ws ((ps.set a x).set b y) := by
  obtain ⟨hf, hs⟩ := h
  have hl := hf.1
  have e1 : (ps.set a x).getD b 0 = ps.getD b 0 := by rw [List.getD_eq_getElem?_getD, List.getElem?_set_ne hab, List.getD_eq_getElem?_getD]
  refine ⟨fits_of (by simp [hl]) fun k hk => ?_, ?_⟩
  · rw [List.getD_eq_getElem?_getD, List.getElem?_set]
    by_cases c : b = k
    · subst c; rw [if_pos rfl, if_pos (by simp; (first | lia | omega))]; exact hy
    · rw [if_neg c, List.getElem?_set]
      by_cases c2 : a = k
      · subst c2; rw [if_pos rfl, if_pos (by (first | lia | omega))]; exact hx
      · rw [if_neg c2, ← List.getD_eq_getElem?_getD]; exact fits_at hf hk
  · rw [side_set hb (by simp; (first | lia | omega)), side_set hb (by simp; (first | lia | omega)), side_set ha (by (first | lia | omega)), side_set ha (by (first | lia | omega)), e1]
    generalize ps.getD a 0 = u at *
    generalize ps.getD b 0 = v at *
    generalize sideF ws ps true = S at *
    generalize sideF ws ps false = S' at *
    revert he
    cases (wAt ws a).buy <;> cases (wAt ws b).buy <;> simp <;> (first | lia | omega)

set_option Elab.async false
set_option autoImplicit false
set_option linter.unusedVariables false
set_option linter.unusedSimpArgs false
set_option maxRecDepth 100000
open PySem PySem.Spec PySem.Calls PyProof.Rows
theorem set_data {l : List Int} : ∀ v ∈ l.map vInt, ∃ x, v = V.d x := by
  intro v hv
  obtain ⟨a, _, rfl⟩ := List.mem_map.mp hv; exact ⟨_, rfl⟩
set_option maxHeartbeats 4000000 in
theorem v_more {fam : List Str} {X : Cx} {k : Nat} (cx : CxOk X) (calm : 100 ≤ k) (zipk : X.val ("zip" : Str) = some (.type "zip")) (h_best : ValidF X k ("_law_best_with_room" : Str) bestT) (h_list : ValidF X k ("list" : Str) listT) {nm : Str} {ps : Arguments} {body : List Stmt} {dl : List Expr} {re : Option Expr} {tp} {sc : Scope} {tc} {q : Str} {pos : Pos}
    (hs : prg.main.body[37]? = some (.FunctionDef nm ps body dl re tp sc tc q pos)) (hf : IsFn X ("_law_one_more" : Str) (ps.args.map (·.arg)) body sc) : ValidF X (k + 1) ("_law_one_more" : Str) moreT := by
  cases hs
  have hf : IsFn X ("_law_one_more" : Str) ["_law_wishes", "_law_pieces"] _ _ := hf
  refine valid_fn cx hf (by decide +kernel) ?_
  rintro _ σ K ⟨i, j, ws, ps, rfl, h1, h2, h3, he, hK⟩
  have hl := he.1.1
  refine ⟨rfl, fun env => ?_⟩
  dsimp only
  (repeat walk_at "mine_step")
  refine ⟨_, _, ws, ps, true, rfl, h1, by (first | lia | omega), h3, hl, fun r hr => ?_⟩
  (repeat walk_at "mine_step")
  refine ⟨_, _, ws, ps, false, rfl, h1, by (first | lia | omega), h3, hl, fun s hs => ?_⟩
  (repeat walk_at "mine_step")
  refine ⟨_, h3, by simp; (first | lia | omega), ?_⟩
  (repeat walk_at "mine_step")
  by_cases c1 : 0 ≤ r
  · rw [decide_eq_true c1]
    (repeat walk_at "mine_step")
    by_cases c2 : 0 ≤ s
    · rw [decide_eq_true c2]
      (repeat walk_at "mine_step")
      rcases hr with q | ⟨a, rfl, a1, a2, a3⟩
      · (first | lia | omega)
      rcases hs with q | ⟨b, rfl, b1, b2, b3⟩
      · (first | lia | omega)
      have hab : a ≠ b := fun q => by rw [q, b2] at a2; cases a2
      have fa := fits_at he.1 a1
      have fb := fits_at he.1 b1
      have hal : a < ps.length := by (first | lia | omega)
      have hbl : b < ps.length := by (first | lia | omega)
      have ea := iAt (ps := ps) hal
      have e1 : (ps.set a (ps.getD a 0 + 1)).getD b 0 = ps.getD b 0 := by rw [List.getD_eq_getElem?_getD, List.getElem?_set_ne hab, List.getD_eq_getElem?_getD]
      have eb := iAt (ps := ps.set a (ps.getD a 0 + 1)) (k := b) (by simpa using hbl)
      rw [e1] at eb
      refine zqa itemsAt_new (by first | assumption | exact ⟨by (first | lia | omega), by (first | lia | omega)⟩) ea ?_
      (repeat walk_at "mine_step")
      refine zqi get_new (by first | assumption | exact ⟨by (first | lia | omega), by (first | lia | omega)⟩) (by rw [List.length_map]; (first | lia | omega)) ?_
      rw [set_new, set_ints]
      (repeat walk_at "mine_step")
      refine zqa itemsAt_new (by first | assumption | exact ⟨by (first | lia | omega), by (first | lia | omega)⟩) eb ?_
      (repeat walk_at "mine_step")
      refine zqi get_new (by first | assumption | exact ⟨by (first | lia | omega), by (first | lia | omega)⟩) (by simp; (first | lia | omega)) ?_
      rw [set_new, set_ints]
      (repeat walk_at "mine_step")
      exact ret_list Grown.refl.snoc (Nat.le_refl _) get_new set_data (hK _ (even_two he a1 b1 hab (by (first | lia | omega)) (by (first | lia | omega)) (by rw [a2, b2]; simp; (first | lia | omega))))
    · rw [decide_eq_false c2]
      (repeat walk_at "mine_step")
      exact ret_list Grown.refl.snoc (Nat.le_refl _) get_new set_data (hK _ he)
  · rw [decide_eq_false c1]
    (repeat walk_at "mine_step")
    exact ret_list Grown.refl.snoc (Nat.le_refl _) get_new set_data (hK _ he)

set_option Elab.async false
set_option autoImplicit false
set_option linter.unusedVariables false
set_option linter.unusedSimpArgs false
set_option maxRecDepth 100000
open PySem PySem.Spec PySem.Calls PyProof.Rows
noncomputable def shiftedT : Contract := fun vs σ K => ∃ (i j : Nat) (ws : List Wish) (ps : List Int) (cell : Int), vs = [.ref i, .ref j, .d (.int cell)] ∧ itemsAt σ i = some (ws.map Wish.v) ∧ ws.length ≤ 900000 ∧ itemsAt σ j = some (ps.map vInt) ∧ evenOk ws ps ∧ ∀ qs : List Int, evenOk ws qs → K (.val (.ref σ.length) (σ ++ [.lst (qs.map vInt)]))
set_option maxHeartbeats 4000000 in
theorem v_shifted {fam : List Str} {X : Cx} {k : Nat} (cx : CxOk X) (calm : 100 ≤ k) (zipk : X.val ("zip" : Str) = some (.type "zip")) (h_list : ValidF X k ("list" : Str) listT) (h_len : ValidF X k ("len" : Str) lenT) (h_min : ValidF X k ("min" : Str) minT) {nm : Str} {ps : Arguments} {body : List Stmt} {dl : List Expr} {re : Option Expr} {tp} {sc : Scope} {tc} {q : Str} {pos : Pos}
    (hs : prg.main.body[38]? = some (.FunctionDef nm ps body dl re tp sc tc q pos)) (hf : IsFn X ("_law_shifted" : Str) (ps.args.map (·.arg)) body sc) : ValidF X (k + 1) ("_law_shifted" : Str) shiftedT := by
  cases hs
  have hf : IsFn X ("_law_shifted" : Str) ["_law_wishes", "_law_pieces", "_law_cell"] _ _ := hf
  refine valid_fn cx hf (by decide +kernel) ?_
  rintro _ σ K ⟨i, j, ws, ps, cell, rfl, h1, h2, h3, he, hK⟩
  have hl := he.1.1
  refine ⟨rfl, fun env => ?_⟩
  dsimp only
  (repeat walk_at "mine_step")
  refine ⟨_, h3, by simp; (first | lia | omega), ?_⟩
  (repeat walk_at "mine_step")
  refine len_of (Grown.refl.snoc.items h1) (by (first | lia | omega)) ?_
  (repeat walk_at "mine_step")
  refine ⟨fun c0 => ?_, fun c0 => ?_⟩
  · (repeat walk_at "mine_step")
    exact ret_list Grown.refl.snoc (Nat.le_refl _) get_new set_data (hK _ he)
  have c0 := of_decide_eq_false c0
  have hpos : 0 < ws.length := by (first | lia | omega)
  (repeat walk_at "mine_step")
  refine len_of (Grown.refl.snoc.items h1) (by (first | lia | omega)) ?_
  (repeat walk_at "mine_step")
  refine zqm (by (first | lia | omega)) ?_
  (repeat walk_at "mine_step")
  refine len_of (Grown.refl.snoc.items h1) (by (first | lia | omega)) ?_
  (repeat walk_at "mine_step")
  refine zqm (by (first | lia | omega)) ?_
  obtain ⟨a, ha⟩ := Int.eq_ofNat_of_zero_le (Int.emod_nonneg cell (show (ws.length : Int) ≠ 0 by (first | lia | omega)))
  obtain ⟨b, hb⟩ := Int.eq_ofNat_of_zero_le (Int.emod_nonneg (cell / 211) (show (ws.length : Int) ≠ 0 by (first | lia | omega)))
  have a1 := Int.emod_lt_of_pos cell (show 0 < (ws.length : Int) by (first | lia | omega))
  have b1 := Int.emod_lt_of_pos (cell / 211) (show 0 < (ws.length : Int) by (first | lia | omega))
  rw [ha] at a1 ⊢
  rw [hb] at b1 ⊢
  clear ha hb
  have a1 : a < ws.length := by (first | lia | omega)
  have b1 : b < ws.length := by (first | lia | omega)
  have fa := fits_at he.1 a1
  have fb := fits_at he.1 b1
  have ea := iAt (ps := ps) (k := a) (by (first | lia | omega))
  have eb := iAt (ps := ps) (k := b) (by (first | lia | omega))
  have va := vAt a1
  have vb := vAt b1
  have hsa := side_ok (wAt ws a)
  have hsb := side_ok (wAt ws b)
  have hbq := side_beq (wAt ws a) (wAt ws b).buy
  have two : ∀ {x y : Int}, a ≠ b → (0 ≤ x ∧ x ≤ (wAt ws a).amt) → (0 ≤ y ∧ y ≤ (wAt ws b).amt) → (if (wAt ws a).buy == (wAt ws b).buy then x + y = ps.getD a 0 + ps.getD b 0 else x - ps.getD a 0 = y - ps.getD b 0) → evenOk ws ((ps.set a x).set b y) := fun h1 h2 h3 h4 => even_two he a1 b1 h1 h2 h3 h4
  have hne : (wAt ws a).buy ≠ (wAt ws b).buy → a ≠ b := fun h q => h (by rw [q])
  have eb2 : ∀ x, a ≠ b → ((ps.set a x).map vInt)[((b : Nat) : Int).toNat]? = some (.d (.int (ps.getD b 0))) := fun x hab => by
    have := iAt (ps := ps.set a x) (k := b) (by simp; (first | lia | omega))
    rwa [show (ps.set a x).getD b 0 = ps.getD b 0 by rw [List.getD_eq_getElem?_getD, List.getElem?_set_ne hab, List.getD_eq_getElem?_getD]] at this
  generalize wAt ws a = wa at *
  generalize wAt ws b = wb at *
  generalize ps.getD a 0 = u at *
  generalize ps.getD b 0 = v at *
  have hside : wb.side = sideS wb.buy := rfl
  unfold Wish.v at va vb
  (repeat walk_at "mine_step")
  refine zqa (Grown.refl.snoc.items h1) (by first | assumption | exact ⟨by (first | lia | omega), by (first | lia | omega)⟩) va ?_
  (repeat walk_at "mine_step")
  refine zqa (Grown.refl.snoc.items h1) (by first | assumption | exact ⟨by (first | lia | omega), by (first | lia | omega)⟩) vb ?_
  (repeat walk_at "mine_step")
  rw [hside, hbq]
  refine ⟨fun q => ?_, fun q => ?_⟩
  · rw [q] at two
    (repeat walk_at "mine_step")
    refine zqa itemsAt_new (by first | assumption | exact ⟨by (first | lia | omega), by (first | lia | omega)⟩) ea ?_
    (repeat walk_at "mine_step")
    refine zqa (Grown.refl.snoc.items h1) (by first | assumption | exact ⟨by (first | lia | omega), by (first | lia | omega)⟩) vb ?_
    (repeat walk_at "mine_step")
    refine zqa itemsAt_new (by first | assumption | exact ⟨by (first | lia | omega), by (first | lia | omega)⟩) eb ?_
    (repeat walk_at "mine_step")
    dsimp only [minT, vInt]
    (repeat walk_at "mine_step")
    by_cases c1 : (a : Int) = b
    · rw [decide_eq_true c1]
      (repeat walk_at "mine_step")
      exact ret_list Grown.refl.snoc (Nat.le_refl _) get_new set_data (hK _ he)
    · rw [decide_eq_false c1]
      have hab : a ≠ b := by (first | lia | omega)
      (repeat walk_at "mine_step")
      have hM : ∃ M, (if wb.amt - v < u then wb.amt - v else u) = M ∧ M ≤ u ∧ M ≤ wb.amt - v := ⟨_, rfl, by split <;> (first | lia | omega), by split <;> (first | lia | omega)⟩
      obtain ⟨M, eM, M1, M2⟩ := hM
      rw [eM]
      by_cases c2 : 0 < M
      · rw [decide_eq_true c2]
        (repeat walk_at "mine_step")
        refine zqm (by (first | lia | omega)) ?_
        have z0 := Int.emod_nonneg (cell / 7) (show M ≠ 0 by (first | lia | omega))
        have z1 := Int.emod_lt_of_pos (cell / 7) c2
        generalize cell / 7 % M = z at *
        (repeat walk_at "mine_step")
        refine zqa itemsAt_new (by first | assumption | exact ⟨by (first | lia | omega), by (first | lia | omega)⟩) ea ?_
        (repeat walk_at "mine_step")
        refine zqi get_new (by first | assumption | exact ⟨by (first | lia | omega), by (first | lia | omega)⟩) (by rw [List.length_map]; (first | lia | omega)) ?_
        rw [set_new, set_ints]
        (repeat walk_at "mine_step")
        refine zqa itemsAt_new (by first | assumption | exact ⟨by (first | lia | omega), by (first | lia | omega)⟩) (eb2 _ hab) ?_
        (repeat walk_at "mine_step")
        refine zqi get_new (by first | assumption | exact ⟨by (first | lia | omega), by (first | lia | omega)⟩) (by simp; (first | lia | omega)) ?_
        rw [set_new, set_ints]
        (repeat walk_at "mine_step")
        exact ret_list Grown.refl.snoc (Nat.le_refl _) get_new set_data (hK _ (two hab (by (first | lia | omega)) (by (first | lia | omega)) (by rw [if_pos rfl]; (first | lia | omega))))
      · rw [decide_eq_false c2]
        (repeat walk_at "mine_step")
        exact ret_list Grown.refl.snoc (Nat.le_refl _) get_new set_data (hK _ he)
  · rw [q] at two
    have hab := hne (fun h => by rw [h, beq_self_eq_true] at q; cases q)
    have hst : ∀ (st : Int), (st = 1 ∧ u < wa.amt ∧ v < wb.amt ∨ st = -1 ∧ 0 < u ∧ 0 < v) → evenOk ws ((ps.set a (u + st)).set b (v + st)) := fun st h => two hab (by (first | lia | omega)) (by (first | lia | omega)) (by rw [if_neg (by decide)]; (first | lia | omega))
    (repeat ((fail_if_success (with_reducible show SV _ _ _ _ _ _ _ _ _)); walk_at "mine_step"))
    refine sv_out (decide (cell % 2 = 1) || (decide (u = wa.amt) || decide (v = wb.amt))) (fun f hf => ?_) ?_
    · (repeat walk_at "mine_step")
      by_cases e1 : cell % 2 = 1
      · rw [decide_eq_true e1] at hf ⊢
        (repeat walk_at "mine_step")
        exact hf
      · rw [decide_eq_false e1] at hf ⊢
        (repeat walk_at "mine_step")
        refine zqa itemsAt_new (by first | assumption | exact ⟨by (first | lia | omega), by (first | lia | omega)⟩) ea ?_
        (repeat walk_at "mine_step")
        refine zqa (Grown.refl.snoc.items h1) (by first | assumption | exact ⟨by (first | lia | omega), by (first | lia | omega)⟩) va ?_
        (repeat walk_at "mine_step")
        by_cases e2 : u = wa.amt
        · rw [decide_eq_true e2] at hf ⊢
          (repeat walk_at "mine_step")
          exact hf
        · rw [decide_eq_false e2] at hf ⊢
          (repeat walk_at "mine_step")
          refine zqa itemsAt_new (by first | assumption | exact ⟨by (first | lia | omega), by (first | lia | omega)⟩) eb ?_
          (repeat walk_at "mine_step")
          refine zqa (Grown.refl.snoc.items h1) (by first | assumption | exact ⟨by (first | lia | omega), by (first | lia | omega)⟩) vb ?_
          (repeat walk_at "mine_step")
          cases e3 : decide (v = wb.amt) with
          | true => rw [e3] at hf; (repeat walk_at "mine_step"); exact hf
          | false => rw [e3] at hf; (repeat walk_at "mine_step"); exact hf
    apply if_joinI ("_law_step" : Str)
    focus (((repeat walk_at "mine_look"); done))
    focus
      intro hc R hr
      (repeat walk_at "mine_step")
      exact hr
    have hst' : ∃ st : Int, (if (decide (cell % 2 = 1) || (decide (u = wa.amt) || decide (v = wb.amt))) = true then (-1 : Int) else 1) = st ∧ (st = 1 ∧ u < wa.amt ∧ v < wb.amt ∨ st = -1) := by
      by_cases c : (decide (cell % 2 = 1) || (decide (u = wa.amt) || decide (v = wb.amt))) = true
      · exact ⟨_, if_pos c, .inr rfl⟩
      · refine ⟨_, if_neg c, .inl ⟨rfl, ?_⟩⟩
        simp only [Bool.or_eq_true, decide_eq_true_eq, not_or] at c
        exact ⟨by (first | lia | omega), by (first | lia | omega)⟩
    obtain ⟨st, est, hst'⟩ := hst'
    rw [est]
    clear est
    (repeat ((fail_if_success (with_reducible show SV _ _ _ _ _ _ _ _ _)); walk_at "mine_step"))
    refine sv_out (decide (st = 1) || (decide (0 < u) && decide (0 < v))) (fun f hf => ?_) ?_
    · (repeat walk_at "mine_step")
      by_cases s1 : st = 1
      · rw [decide_eq_true s1] at hf ⊢
        (repeat walk_at "mine_step")
        exact hf
      · rw [decide_eq_false s1] at hf ⊢
        (repeat walk_at "mine_step")
        refine zqa itemsAt_new (by first | assumption | exact ⟨by (first | lia | omega), by (first | lia | omega)⟩) ea ?_
        (repeat walk_at "mine_step")
        by_cases d1 : 0 < u
        · rw [decide_eq_true d1] at hf ⊢
          (repeat walk_at "mine_step")
          refine zqa itemsAt_new (by first | assumption | exact ⟨by (first | lia | omega), by (first | lia | omega)⟩) eb ?_
          (repeat walk_at "mine_step")
          cases e3 : decide (0 < v) with
          | true => rw [e3] at hf; (repeat walk_at "mine_step"); exact hf
          | false => rw [e3] at hf; (repeat walk_at "mine_step"); exact hf
        · rw [decide_eq_false d1] at hf ⊢
          (repeat walk_at "mine_step")
          exact hf
    refine ⟨fun hc => ?_, fun hc => ?_⟩
    · (repeat walk_at "mine_step")
      refine zqa itemsAt_new (by first | assumption | exact ⟨by (first | lia | omega), by (first | lia | omega)⟩) ea ?_
      (repeat walk_at "mine_step")
      refine zqi get_new (by first | assumption | exact ⟨by (first | lia | omega), by (first | lia | omega)⟩) (by rw [List.length_map]; (first | lia | omega)) ?_
      rw [set_new, set_ints]
      (repeat walk_at "mine_step")
      refine zqa itemsAt_new (by first | assumption | exact ⟨by (first | lia | omega), by (first | lia | omega)⟩) (eb2 _ hab) ?_
      (repeat walk_at "mine_step")
      refine zqi get_new (by first | assumption | exact ⟨by (first | lia | omega), by (first | lia | omega)⟩) (by simp; (first | lia | omega)) ?_
      rw [set_new, set_ints]
      (repeat walk_at "mine_step")
      simp only [Bool.or_eq_true, Bool.and_eq_true, decide_eq_true_eq] at hc
      exact ret_list Grown.refl.snoc (Nat.le_refl _) get_new set_data (hK _ (hst _ (by (first | lia | omega))))
    · (repeat walk_at "mine_step")
      exact ret_list Grown.refl.snoc (Nat.le_refl _) get_new set_data (hK _ he)

set_option Elab.async false
set_option autoImplicit false
set_option linter.unusedVariables false
set_option linter.unusedSimpArgs false
set_option maxRecDepth 100000
open PySem PySem.Spec PySem.Calls PyProof.Rows
theorem fold_len {ps : List Int} : ∀ (l : List (Nat × Nat × Int)), (l.foldl dealStep ps).length = ps.length := fun l => by
  induction l generalizing ps with
  | nil => rfl
  | cons d l ih => rw [List.foldl_cons, ih, dealStep_len]
theorem fold_succ {ps : List Int} {l : List (Nat × Nat × Int)} {k : Nat} (h : k < l.length) : (l.take (k + 1)).foldl dealStep ps = dealStep ((l.take k).foldl dealStep ps) l[k] := by
  rw [List.take_succ_eq_append_getElem h, List.foldl_append]; rfl
theorem deals_had {ws : List Wish} : ∀ (l : List (Nat × Nat × Int)) (ps : List Int), ps.length = ws.length → (∀ d ∈ l, DealOk ws d) → l.foldl dealStep ps = List.replicate ws.length 0 →
    (∀ k, 0 ≤ ps.getD k 0) ∧ ∀ d ∈ l, 0 < ps.getD d.1 0 ∧ 0 < ps.getD d.2.1 0
  | [], ps, _, _, h => by
    have h : ps = List.replicate ws.length 0 := h
    refine ⟨fun k => ?_, fun d hd => by cases hd⟩
    rw [h, List.getD_eq_getElem?_getD, List.getElem?_replicate]
    split <;> exact Int.le_refl _
  | (b, s, n) :: l, ps, hl, hg, h => by
    obtain ⟨d1, d2, d3, d4, d5⟩ := hg _ List.mem_cons_self
    dsimp only at d1 d2 d3 d4 d5
    have hne : b ≠ s := fun q => by rw [q, d4] at d3; cases d3
    obtain ⟨i1, i2⟩ := deals_had l (dealStep ps (b, s, n)) (by rw [dealStep_len]; exact hl) (fun d hd => hg d (List.mem_cons_of_mem _ hd)) h
    have ge : ∀ k, (dealStep ps (b, s, n)).getD k 0 ≤ ps.getD k 0 ∧ ((k = b ∨ k = s) → (dealStep ps (b, s, n)).getD k 0 + n ≤ ps.getD k 0) := fun k => by
      rw [dealStep_get (by (first | lia | omega)) (by (first | lia | omega)) hne]
      split
      · exact ⟨by (first | lia | omega), fun _ => by (first | lia | omega)⟩
      · rename_i q; exact ⟨Int.le_refl _, fun w => absurd w q⟩
    refine ⟨fun k => Int.le_trans (i1 k) (ge k).1, fun d hd => ?_⟩
    rcases List.mem_cons.mp hd with rfl | hd
    · have a1 := i1 b
      have a2 := i1 s
      have b1 := (ge b).2 (.inl rfl)
      have b2 := (ge s).2 (.inr rfl)
      dsimp only
      exact ⟨by (first | lia | omega), by (first | lia | omega)⟩
    · exact ⟨Int.lt_of_lt_of_le (i2 d hd).1 (ge _).1, Int.lt_of_lt_of_le (i2 d hd).2 (ge _).1⟩
theorem due_elig {ws : List Wish} {p : Int} {k : Nat} (h : 0 < dueF ws p k) : eligF p (wAt ws k) = true := by
  cases e : eligF p (wAt ws k) with
  | true => rfl
  | false => rw [due_none e] at h; exact absurd h (by decide)
noncomputable def pgoodT : Contract := fun vs σ K => ∃ (l i j : Nat) (ws : List Wish) (ps : List Int) (found : List (Nat × Nat × Int)) (p : Int), vs = [.ref l, .ref i, .ref j, .d (.int p)] ∧ itemsAt σ l = some (found.map dealV) ∧ itemsAt σ i = some (ws.map Wish.v) ∧ ws.length ≤ 400000 ∧ itemsAt σ j = some (ps.map vInt) ∧ ps.length = ws.length ∧ Deals ws ps found ∧
  (∀ d ∈ found, (wAt ws d.2.1).lim ≤ p ∧ p ≤ (wAt ws d.1).lim) ∧ K (.val (.d (.bool true)) σ)
set_option maxHeartbeats 4000000 in
theorem v_pgood {fam : List Str} {X : Cx} {k : Nat} (cx : CxOk X) (calm : 100 ≤ k) (zipk : X.val ("zip" : Str) = some (.type "zip")) (h_isi : ValidF X k ("isinstance" : Str) (isiT fam)) (h_list : ValidF X k ("list" : Str) listT) (h_len : ValidF X k ("len" : Str) lenT) (h_numbers : ValidF X k ("_law_numbers" : Str) numbersT) (k_list : Known X ("list" : Str)) (k_tuple : Known X ("tuple" : Str)) {nm : Str} {ps : Arguments} {body : List Stmt} {dl : List Expr} {re : Option Expr} {tp} {sc : Scope} {tc} {q : Str} {pos : Pos}
    (hs : prg.main.body[39]? = some (.FunctionDef nm ps body dl re tp sc tc q pos)) (hf : IsFn X ("_law_pairs_good" : Str) (ps.args.map (·.arg)) body sc) : ValidF X (k + 1) ("_law_pairs_good" : Str) pgoodT := by
  cases hs
  have hf : IsFn X ("_law_pairs_good" : Str) ["_law_found", "_law_wishes", "_law_pieces", "_law_price"] _ _ := hf
  refine valid_fn cx hf (by decide +kernel) ?_
  rintro _ σ K ⟨l, i, j, ws, ps, found, p, rfl, h0, h1, h2, h3, hl, hd, hpr, hK⟩
  have hfl := hd.len
  refine ⟨rfl, fun env => ?_⟩
  dsimp only
  (repeat walk_at "mine_step")
  refine isi_of (isi_list h0) ?_
  (repeat walk_at "mine_step")
  refine ⟨_, h3, by simp; (first | lia | omega), ?_⟩
  (repeat walk_at "mine_step")
  have eset : ∀ {a x : Cell} {rs : List Cell}, (σ ++ [a] ++ rs).set σ.length x = σ ++ [x] ++ rs := by intro a x rs; simp
  have eget : ∀ {a : Cell} {rs : List Cell}, (σ ++ [a] ++ rs)[σ.length]? = some a := by intro a rs; simp
  have eit : ∀ {a : List V} {rs : List Cell}, itemsAt (σ ++ [.lst a] ++ rs) σ.length = some a := by intro a rs; unfold itemsAt; simp [Cell.list?]
  have gg : ∀ {a : Cell} {rs : List Cell}, Grown σ (σ ++ [a] ++ rs) := fun {a rs} => ⟨[a] ++ rs, by simp⟩
  have eapp : ∀ {a : Cell} {rs : List Cell} {b : Cell}, σ ++ [a] ++ rs ++ [b] = σ ++ [a] ++ (rs ++ [b]) := by intro a rs b; simp
  refine for_src found dealV (fun k m σ' => ∃ rs : List Cell, σ' = σ ++ [Cell.lst (((found.take k).foldl dealStep ps).map vInt)] ++ rs ∧ m ("_law_wishes" : Str) = some (.ref i) ∧ m ("_law_left" : Str) = some (.ref σ.length) ∧ m ("_law_price" : Str) = some (.d (.int p)))
    ⟨[], by simp, by ((repeat walk_at "mine_look"); done), by ((repeat walk_at "mine_look"); done), by ((repeat walk_at "mine_look"); done)⟩ (fun k m σ' ⟨rs, e, _⟩ => by rw [e]; exact src_ref (gg.items h0) k) ?_ ?_
  · rintro k hk m _ ⟨rs, rfl, m1, m2, m3⟩
    have es := fold_succ (ps := ps) hk
    have ok := hd.good _ (List.getElem_mem hk)
    have hp := hpr _ (List.getElem_mem hk)
    have hlen := fold_len (ps := ps) (found.take k)
    rw [es]
    generalize (found.take k).foldl dealStep ps = left at *
    generalize found[k] = d at *
    obtain ⟨b, s, n⟩ := d
    obtain ⟨d1, d2, d3, d4, d5⟩ := ok
    dsimp only at d1 d2 d3 d4 d5 hp
    have hne : b ≠ s := fun q => by rw [q, d4] at d3; cases d3
    have hbl : b < left.length := by (first | lia | omega)
    have hsl : s < left.length := by (first | lia | omega)
    have epb := iAt hbl
    have e1 : (take1 left b n).getD s 0 = left.getD s 0 := by rw [take1_get hbl, if_neg hne.symm]
    have eps2 := iAt (ps := take1 left b n) (k := s) (by rw [take1_len]; exact hsl)
    rw [e1] at eps2
    have ev1 := vAt d1
    have ev2 := vAt d2
    have hs1 := side_ok (wAt ws b)
    have hs2 := side_ok (wAt ws s)
    have q1 := buy_beq (wAt ws b)
    have q2 := sell_beq (wAt ws s)
    rw [d3] at q1
    rw [d4] at q2
    generalize wAt ws b = wb at *
    generalize wAt ws s = wsl at *
    unfold Wish.v at ev1 ev2
    dsimp only [dealV, dealD]
    (repeat walk_at "mine_step")
    refine isi_of (isi_tup) ?_
    (repeat walk_at "mine_step")
    refine ⟨by simp, ?_⟩
    (repeat walk_at "mine_step")
    refine ⟨_, [(b : Int), (s : Int), n], rfl, itemsAt_new, by simp, ?_⟩
    rw [eapp]
    generalize rs ++ [_] = rs at *
    (repeat walk_at "mine_step")
    first | refine zqd (decide_eq_false (show ¬ n < 1 by (first | lia | omega))) ?_ | refine zqf (decide_eq_false (show ¬ n < 1 by (first | lia | omega))) ?_ | refine zqg (ndf (show ¬ n < 1 by (first | lia | omega))) ?_ | refine zqe (ndf (show ¬ n < 1 by (first | lia | omega))) ?_ | rw [decide_eq_false (show ¬ n < 1 by (first | lia | omega))]
    (repeat walk_at "mine_step")
    refine len_of (gg.items h1) (by (first | lia | omega)) ?_
    (repeat walk_at "mine_step")
    first | refine zqg (decide_eq_true (show ((b : Nat) : Int) < (ws.length : Nat) by (first | lia | omega))) ?_ | refine zqe (decide_eq_true (show ((b : Nat) : Int) < (ws.length : Nat) by (first | lia | omega))) ?_ | refine zqd (ndt (show ((b : Nat) : Int) < (ws.length : Nat) by (first | lia | omega))) ?_ | refine zqf (ndt (show ((b : Nat) : Int) < (ws.length : Nat) by (first | lia | omega))) ?_ | rw [decide_eq_true (show ((b : Nat) : Int) < (ws.length : Nat) by (first | lia | omega))]
    (repeat walk_at "mine_step")
    refine len_of (gg.items h1) (by (first | lia | omega)) ?_
    (repeat walk_at "mine_step")
    first | refine zqg (decide_eq_true (show ((s : Nat) : Int) < (ws.length : Nat) by (first | lia | omega))) ?_ | refine zqe (decide_eq_true (show ((s : Nat) : Int) < (ws.length : Nat) by (first | lia | omega))) ?_ | refine zqd (ndt (show ((s : Nat) : Int) < (ws.length : Nat) by (first | lia | omega))) ?_ | refine zqf (ndt (show ((s : Nat) : Int) < (ws.length : Nat) by (first | lia | omega))) ?_ | rw [decide_eq_true (show ((s : Nat) : Int) < (ws.length : Nat) by (first | lia | omega))]
    (repeat walk_at "mine_step")
    refine zqa (gg.items h1) (by first | assumption | exact ⟨by (first | lia | omega), by (first | lia | omega)⟩) ev1 ?_
    (repeat walk_at "mine_step")
    refine zqa (gg.items h1) (by first | assumption | exact ⟨by (first | lia | omega), by (first | lia | omega)⟩) ev2 ?_
    (repeat walk_at "mine_step")
    rw [q1]
    (repeat walk_at "mine_step")
    rw [q2]
    (repeat walk_at "mine_step")
    first | refine zqg (decide_eq_true hp.1) ?_ | refine zqe (decide_eq_true hp.1) ?_ | refine zqd (ndt hp.1) ?_ | refine zqf (ndt hp.1) ?_ | rw [decide_eq_true hp.1]
    (repeat walk_at "mine_step")
    first | refine zqg (decide_eq_true hp.2) ?_ | refine zqe (decide_eq_true hp.2) ?_ | refine zqd (ndt hp.2) ?_ | refine zqf (ndt hp.2) ?_ | rw [decide_eq_true hp.2]
    (repeat walk_at "mine_step")
    refine zqa eit (by first | assumption | exact ⟨by (first | lia | omega), by (first | lia | omega)⟩) epb ?_
    (repeat walk_at "mine_step")
    refine zqi eget (by first | assumption | exact ⟨by (first | lia | omega), by (first | lia | omega)⟩) (by rw [List.length_map]; (first | lia | omega)) ?_
    rw [eset, set_ints, show left.set b (left.getD b 0 - n) = take1 left b n from rfl]
    (repeat walk_at "mine_step")
    refine zqa eit (by first | assumption | exact ⟨by (first | lia | omega), by (first | lia | omega)⟩) eps2 ?_
    (repeat walk_at "mine_step")
    refine zqi eget (by first | assumption | exact ⟨by (first | lia | omega), by (first | lia | omega)⟩) (by rw [List.length_map, take1_len]; (first | lia | omega)) ?_
    rw [eset, set_ints, show (take1 left b n).set s (left.getD s 0 - n) = dealStep left (b, s, n) by unfold dealStep; dsimp only; unfold take1 at e1 ⊢; rw [e1]]
    (repeat walk_at "mine_step")
    exact ⟨rs, rfl, by ((repeat walk_at "mine_look"); done), by ((repeat walk_at "mine_look"); done), by ((repeat walk_at "mine_look"); done)⟩
  · rintro m _ ⟨rs, rfl, m1, m2, m3⟩
    rw [List.take_length, hd.zero]
    (repeat walk_at "mine_step")
    refine comp_src ws Wish.v (fun _ => some (.d (.int 0))) (src_ref (gg.items h1)) (by (first | lia | omega)) ?_ ?_
    · intro w _ env' Y N hY hN
      (repeat walk_at "mine_step")
      exact hY _ rfl
    rw [zeros]
    (repeat walk_at "mine_step")
    refine eq_ints (Grown.refl.snoc.items eit) itemsAt_new ?_
    first | refine zqg (decide_eq_true rfl) ?_ | refine zqe (decide_eq_true rfl) ?_ | refine zqd (ndt rfl) ?_ | refine zqf (ndt rfl) ?_ | rw [decide_eq_true rfl]
    exact ret_data gg.snoc hK

set_option Elab.async false
set_option autoImplicit false
set_option linter.unusedVariables false
set_option linter.unusedSimpArgs false
set_option maxRecDepth 100000
open PySem PySem.Spec PySem.Calls PyProof.Rows
theorem mid_price {old low high : Int} (hlh : low ≤ high) : ∃ f, (if high < (if old < low then low else old) then high else (if old < low then low else old)) = f ∧ low ≤ f ∧ f ≤ high := by
  refine ⟨_, rfl, ?_⟩
  split <;> split <;> (first | lia | omega)
theorem pieces_at_k {ws : List Wish} {p : Int} {k : Nat} (hk : k < ws.length) : (piecesF ws p).getD k 0 = dueF ws p k := by
  unfold piecesF
  rw [List.getD_eq_getElem?_getD, List.getElem?_map, List.getElem?_range hk]; rfl
theorem pieces_even {ws : List Wish} {p : Int} (ho : ∀ w ∈ ws, w.ok) : evenOk ws (piecesF ws p) := by
  have hD : 0 ≤ dealtF ws p := by have := wantedF_nonneg ho p; have := offeredF_nonneg ho p; unfold dealtF; (first | lia | omega)
  refine ⟨fits_of (by unfold piecesF; simp) fun k hk => ?_, ?_⟩
  · rw [pieces_at_k hk]; exact due_fits ho hk
  · rw [side_dealt ho hD, side_dealt ho hD]
theorem worth_gained {ws : List Wish} {ps : List Int} (hl : ps.length = ws.length) : ∀ k, k ≤ ws.length → worthF ws ps k = gainedF ws ps 0 k
  | 0, _ => rfl
  | k + 1, hk => by
    rw [worthF_succ (by (first | lia | omega)) (by (first | lia | omega)), gained_next, worth_gained hl k (by (first | lia | omega)), wAt_eq (by (first | lia | omega))]
    unfold payF gainAt
    rw [show ps.getD k 0 = ps[k]'(by (first | lia | omega)) by rw [List.getD_eq_getElem?_getD, List.getElem?_eq_getElem (by (first | lia | omega))]; rfl]
    split
    · rw [Int.sub_zero]
    · rw [Int.zero_sub, Int.neg_mul]
theorem best_gains {ws : List Wish} {p : Int} {qs : List Int} (ho : ∀ w ∈ ws, w.ok) (he : enoughF ws p = true) (hs : soldF ws p = true) (hq : evenOk ws qs) :
    gainedF ws qs p ws.length ≤ gainedF ws (piecesF ws p) p ws.length ∧ gainedF ws qs 0 ws.length ≤ gainedF ws (piecesF ws p) 0 ws.length := by
  have h := gained_most ho he hs fun k hk => fits_at hq.1 hk
  have hb := (pieces_even (p := p) ho).2
  refine ⟨h, ?_⟩
  rw [gained_shift ws qs p, gained_shift ws (piecesF ws p) p, hq.2, hb, Int.sub_self, Int.sub_self]
  (first | lia | omega)
theorem deal_prices {ws : List Wish} {p : Int} {found : List (Nat × Nat × Int)} (hd : Deals ws (piecesF ws p) found) : ∀ d ∈ found, (wAt ws d.2.1).lim ≤ p ∧ p ≤ (wAt ws d.1).lim := by
  intro d h
  obtain ⟨d1, d2, d3, d4, d5⟩ := hd.good d h
  obtain ⟨g1, g2⟩ := (deals_had found (piecesF ws p) (by unfold piecesF; simp) hd.good hd.zero).2 d h
  rw [pieces_at_k d1] at g1
  rw [pieces_at_k d2] at g2
  have e1 := due_elig g1
  have e2 := due_elig g2
  unfold eligF at e1 e2
  rw [d3, if_pos rfl] at e1
  rw [d4, if_neg (by decide)] at e2
  exact ⟨of_decide_eq_true e2, of_decide_eq_true e1⟩
theorem data_three {σ : Store} {l x y z : Nat} {ws : List Wish} {ps qs : List Int} (q1 : itemsAt σ l = some [.ref x, .ref y, .ref z]) (q2 : itemsAt σ x = some (ws.map Wish.v)) (q3 : itemsAt σ y = some (ps.map vInt)) (q4 : itemsAt σ z = some (qs.map vInt)) : dataOf σ 3 (.ref l) = some (.list [.list (ws.map Wish.d), .list (ps.map .int), .list (qs.map .int)]) := by
  have dw : dataOf σ 2 (.ref x) = some (.list (ws.map Wish.d)) := dataOf_data (by rw [← map_v]; exact q2)
  have di : dataOf σ 2 (.ref y) = some (.list (ps.map .int)) := dataOf_data (by rw [← map_int]; exact q3)
  have dj : dataOf σ 2 (.ref z) = some (.list (qs.map .int)) := dataOf_data (by rw [← map_int]; exact q4)
  unfold dataOf
  rw [q1]
  simp only [Option.bind_some, List.mapM_cons, List.mapM_nil, dw, di, dj]
  rfl
theorem shaped_three (ws : List Wish) (ps qs : List Int) : SeqAt.shaped (.list [.list (ws.map Wish.d), .list (ps.map .int), .list (qs.map .int)]) = true := by
  have hi : ∀ ps : List Int, (PyData.list (ps.map .int)).depth ≤ 40 := fun ps => by
    have := depth_all 2 (ps.map PyData.int) (fun d hd => by obtain ⟨w, _, rfl⟩ := List.mem_map.mp hd; simp [PyData.depth])
    simp only [PyData.depth]; (first | lia | omega)
  refine shaped_list _ (fun d hd => ?_) (fun d hd => ?_)
  all_goals (simp only [List.mem_cons, List.not_mem_nil, or_false] at hd; rcases hd with rfl | rfl | rfl)
  · exact SeqAt.canLay_of_shaped (shaped_wishes ws)
  · exact SeqAt.canLay_of_shaped (shaped_ints ps)
  · exact SeqAt.canLay_of_shaped (shaped_ints qs)
  · have := depth_all 2 (ws.map Wish.d) (fun d hd => by obtain ⟨w, _, rfl⟩ := List.mem_map.mp hd; simp [Wish.d, PyData.depth, PyData.depthAll])
    simp only [PyData.depth]; (first | lia | omega)
  · exact hi ps
  · exact hi qs
theorem eq_three {X : Cx} {σ : Store} {h h' a b c a' b' c' : Nat} {ws : List Wish} {ps qs : List Int} {g : Bool → Prop} (e1 : itemsAt σ h = some [.ref a, .ref b, .ref c]) (e2 : itemsAt σ h' = some [.ref a', .ref b', .ref c'])
    (e3 : itemsAt σ a = some (ws.map Wish.v)) (e4 : itemsAt σ b = some (ps.map vInt)) (e5 : itemsAt σ c = some (qs.map vInt)) (e6 : itemsAt σ a' = some (ws.map Wish.v)) (e7 : itemsAt σ b' = some (ps.map vInt)) (e8 : itemsAt σ c' = some (qs.map vInt)) (hg : g true) : cmpW X .Eq (.ref h) (.ref h') σ g := by
  refine zqk (data_three e1 e3 e4 e5) (data_three e2 e6 e7 e8) (shaped_three ws ps qs) (shaped_three ws ps qs) ?_
  rw [show PyData.eqv (.list [.list (ws.map Wish.d), .list (ps.map .int), .list (qs.map .int)]) (.list [.list (ws.map Wish.d), .list (ps.map .int), .list (qs.map .int)]) = true by
    simp [PyData.eqv, PyData.eqvAll, eqv_wishes, eqv_ints]]
  exact hg
set_option maxHeartbeats 4000000 in
theorem v_goalL {fam : List Str} {X : Cx} {P : Addr} {k : Nat} (cx : CxOk X) (calm : 100 ≤ k) (zipk : X.val ("zip" : Str) = some (.type "zip")) (h_wishes_by : ValidF X k ("_law_wishes_by" : Str) wishes_byT) (h_price_by : ValidF X k ("_law_price_by" : Str) price_byT) (h_cell_at : ValidF X k ("_law_cell_at" : Str) cell_atT) (h_evened : ValidF X k ("_law_evened" : Str) evenedT) (h_pieces_by : ValidF X k ("_law_pieces_by" : Str) pieces_byT) (h_list : ValidF X k ("list" : Str) listT) (h_pby : ValidF X k ("price_by" : Str) pbyT) (h_whole : ValidF X k ("_law_whole" : Str) wholeT) (h_pieces_at : ValidF X k ("pieces_at" : Str) (pieces_atT P)) (h_numbers : ValidF X k ("_law_numbers" : Str) numbersT) (h_len : ValidF X k ("len" : Str) lenT) (h_range : ValidF X k ("range" : Str) rangeT) (h_lside : ValidF X k ("_law_side" : Str) lsideT) (h_more : ValidF X k ("_law_one_more" : Str) moreT) (h_shifted : ValidF X k ("_law_shifted" : Str) shiftedT) (h_gained : ValidF X k ("_law_gained" : Str) gainedT) (h_worth : ValidF X k ("worth" : Str) worthT) (h_pairs : ValidF X k ("pairs" : Str) pairsT) (h_pgood : ValidF X k ("_law_pairs_good" : Str) pgoodT) {nm : Str} {ps : Arguments} {body : List Stmt} {dl : List Expr} {re : Option Expr} {tp} {sc : Scope} {tc} {q : Str} {pos : Pos}
    (hs : prg.main.body[40]? = some (.FunctionDef nm ps body dl re tp sc tc q pos)) (hf : IsFn X ("law" : Str) (ps.args.map (·.arg)) body sc) : ValidF X (k + 1) ("law" : Str) (goalLT P) := by
  cases hs
  have hf : IsFn X ("law" : Str) ["_law_script"] _ _ := hf
  refine valid_fn cx hf (by decide +kernel) ?_
  rintro _ σ K ⟨i, t, ns, rfl, ht, h1, h63, hK⟩
  have h2 : ns.length ≤ 900000 := by (first | lia | omega)
  have htl := (List.getElem?_eq_some_iff.mp ht).1
  have gtab : ∀ {τ}, Grown σ τ → τ[t]? = some (.tab P (rankQ "ranked")) := by
    rintro _ ⟨r, rfl⟩
    rw [List.getElem?_append_left htl]; exact ht
  refine ⟨rfl, fun env => ?_⟩
  dsimp only
  (repeat walk_at "mine_step")
  refine ⟨i, ns, 5, 30, rfl, h1, h2, ?_⟩
  have hl : (wishesF ns 5 30).length ≤ 400 := by
    unfold wishesF extraF manyF
    rw [if_neg (by (first | lia | omega))]
    simp only [List.length_append, List.length_map, List.length_take, List.length_drop]
    split <;> simp <;> (first | lia | omega)
  have ho : ∀ w ∈ wishesF ns 5 30, w.ok := wishesF_ok
  have h64 : ∀ p b, (someF (wishesF ns 5 30) p b).length < 64 := some_few h63 (by decide)
  generalize wishesF ns 5 30 = ws at *
  (repeat walk_at "mine_step")
  refine ⟨i, ns, 2, rfl, Grown.refl.snoc.items h1, by (first | lia | omega), ?_⟩
  (repeat walk_at "mine_step")
  refine ⟨i, ns, 3, rfl, Grown.refl.snoc.items h1, by (first | lia | omega), ?_⟩
  (repeat walk_at "mine_step")
  refine ⟨_, ws, _, _, rfl, itemsAt_new, by (first | lia | omega), fun old hold => ?_⟩
  (repeat walk_at "mine_step")
  refine ⟨i, ns, 4, rfl, Grown.refl.snoc.items h1, by (first | lia | omega), ?_⟩
  (repeat walk_at "mine_step")
  refine ⟨_, ws, _, rfl, itemsAt_new, by (first | lia | omega), ho, fun ps0 hf0 => ?_⟩
  (repeat walk_at "mine_step")
  refine ⟨_, _, ws, ps0, rfl, Grown.refl.snoc.items itemsAt_new, by (first | lia | omega), itemsAt_new, hf0, fun qs0 hq0 he0 => ?_⟩
  have gw : ∀ {τ : Store}, Grown (σ ++ [Cell.lst (ws.map Wish.v)]) τ → itemsAt τ σ.length = some (ws.map Wish.v) := fun g => g.items itemsAt_new
  have hg : Grown (σ ++ [Cell.lst (ws.map Wish.v)]) (σ ++ [Cell.lst (ws.map Wish.v)] ++ [Cell.lst (ps0.map vInt)] ++ [Cell.lst (qs0.map vInt)]) := Grown.refl.snoc.snoc
  have hp1 : itemsAt (σ ++ [Cell.lst (ws.map Wish.v)] ++ [Cell.lst (ps0.map vInt)] ++ [Cell.lst (qs0.map vInt)]) (σ ++ [Cell.lst (ws.map Wish.v)] ++ [Cell.lst (ps0.map vInt)]).length = some (qs0.map vInt) := itemsAt_new
  generalize σ ++ [Cell.lst (ws.map Wish.v)] ++ [Cell.lst (ps0.map vInt)] ++ [Cell.lst (qs0.map vInt)] = τ1 at *
  generalize (σ ++ [Cell.lst (ws.map Wish.v)] ++ [Cell.lst (ps0.map vInt)]).length = o1 at *
  have g1 : Grown σ τ1 := Grown.refl.snoc.trans hg
  (repeat walk_at "mine_step")
  refine ⟨_, gw hg, by simp; (first | lia | omega), ?_⟩
  (repeat walk_at "mine_step")
  refine ⟨_, ws, _, rfl, itemsAt_new, by (first | lia | omega), ho, ⟨old, rfl, hold.1, hold.2, fun low high hlh l2 l3 u2 u3 => ?_⟩⟩
  obtain ⟨p, ep, f1, f2⟩ := mid_price (old := old) hlh.2.1
  rw [ep]
  have he := l3 p f1
  have hs := u3 p f2
  have hp0 : 0 ≤ p := by (first | lia | omega)
  have hp1' : p ≤ 1000000000 := by (first | lia | omega)
  clear l2 l3 u2 u3 ep f1 f2
  (repeat walk_at "mine_step")
  refine ⟨_, rfl, ?_⟩
  (repeat walk_at "mine_step")
  refine ⟨_, gw hg.snoc, by simp; (first | lia | omega), ?_⟩
  (repeat walk_at "mine_step")
  refine ⟨t, _, ws, _, rfl, gtab g1.snoc.snoc, itemsAt_new, by (first | lia | omega), ho, h64, ⟨p, rfl, hp0, hp1', ?_⟩⟩
  have hev := pieces_even (p := p) ho
  have hpl : (piecesF ws p).length = ws.length := hev.1.1
  have hbest := fun {qs : List Int} (hq : evenOk ws qs) => best_gains ho he hs hq
  have hdp := fun {found} (hd : Deals ws (piecesF ws p) found) => deal_prices hd
  clear he hs
  generalize piecesF ws p = ps at *
  (repeat walk_at "mine_step")
  refine ⟨_, gw hg.snoc.snoc.snoc, by simp; (first | lia | omega), ?_⟩
  (repeat walk_at "mine_step")
  refine ⟨_, ps, by rw [hpl, List.length_map], itemsAt_new, by (first | lia | omega), ?_⟩
  (repeat walk_at "mine_step")
  refine len_of (gw hg.snoc.snoc.snoc) (by (first | lia | omega)) ?_
  (repeat walk_at "mine_step")
  refine ⟨by (first | lia | omega), ?_⟩
  (repeat walk_at "mine_step")
  have hw0 : itemsAt (τ1 ++ [Cell.lst (ws.map Wish.v)] ++ [Cell.lst (ws.map Wish.v)] ++ [Cell.lst (ps.map vInt)]) σ.length = some (ws.map Wish.v) := gw hg.snoc.snoc.snoc
  have hw2 : itemsAt (τ1 ++ [Cell.lst (ws.map Wish.v)] ++ [Cell.lst (ws.map Wish.v)] ++ [Cell.lst (ps.map vInt)]) (τ1 ++ [Cell.lst (ws.map Wish.v)] ++ [Cell.lst (ws.map Wish.v)]).length = some (ps.map vInt) := itemsAt_new
  have hq1 : itemsAt (τ1 ++ [Cell.lst (ws.map Wish.v)] ++ [Cell.lst (ws.map Wish.v)] ++ [Cell.lst (ps.map vInt)]) o1 = some (qs0.map vInt) := Grown.refl.snoc.snoc.snoc.items hp1
  have g2 : Grown σ (τ1 ++ [Cell.lst (ws.map Wish.v)] ++ [Cell.lst (ws.map Wish.v)] ++ [Cell.lst (ps.map vInt)]) := g1.snoc.snoc.snoc
  generalize (τ1 ++ [Cell.lst (ws.map Wish.v)] ++ [Cell.lst (ws.map Wish.v)]).length = n2 at *
  generalize τ1 ++ [Cell.lst (ws.map Wish.v)] ++ [Cell.lst (ws.map Wish.v)] ++ [Cell.lst (ps.map vInt)] = τ at *
  clear hg hp1 g1 gw
  refine for_src (List.range ws.length) natV (fun k m τ' => τ' = τ ∧ m ("_law_script" : Str) = some (.ref i) ∧ m ("_law_wishes" : Str) = some (.ref σ.length) ∧ m ("_law_others" : Str) = some (.ref o1) ∧ m ("_law_found" : Str) = some (.ref n2) ∧ m ("_law_price" : Str) = some (.d (.int p)))
    ⟨rfl, by ((repeat walk_at "mine_look"); done), by ((repeat walk_at "mine_look"); done), by ((repeat walk_at "mine_look"); done), by ((repeat walk_at "mine_look"); done), by ((repeat walk_at "mine_look"); done)⟩ (fun k m _ _ => src_rngN k) ?_ ?_
  · rintro k hk m _ ⟨rfl, m1, m2, m3, m4, m5⟩
    rw [List.length_range] at hk
    have hkb : 0 ≤ (k : Int) ∧ (k : Int) < 2 ^ 63 := ix hk (by (first | lia | omega))
    rw [List.getElem_range]
    have ev := vAt hk
    have ep := iAt (ps := ps) (k := k) (by (first | lia | omega))
    have hf := fits_at hev.1 hk
    generalize wAt ws k = w at *
    generalize ps.getD k 0 = n at *
    unfold Wish.v at ev
    dsimp only [natV]
    (repeat walk_at "mine_step")
    refine zqa hw2 (by first | assumption | exact ⟨by (first | lia | omega), by (first | lia | omega)⟩) ep ?_
    (repeat walk_at "mine_step")
    first | refine zqg (decide_eq_true hf.1) ?_ | refine zqe (decide_eq_true hf.1) ?_ | refine zqd (ndt hf.1) ?_ | refine zqf (ndt hf.1) ?_ | rw [decide_eq_true hf.1]
    (repeat walk_at "mine_step")
    refine zqa hw0 (by first | assumption | exact ⟨by (first | lia | omega), by (first | lia | omega)⟩) ev ?_
    (repeat walk_at "mine_step")
    first | refine zqg (decide_eq_true hf.2) ?_ | refine zqe (decide_eq_true hf.2) ?_ | refine zqd (ndt hf.2) ?_ | refine zqf (ndt hf.2) ?_ | rw [decide_eq_true hf.2]
    (repeat walk_at "mine_step")
    exact ⟨rfl, by ((repeat walk_at "mine_look"); done), by ((repeat walk_at "mine_look"); done), by ((repeat walk_at "mine_look"); done), by ((repeat walk_at "mine_look"); done), by ((repeat walk_at "mine_look"); done)⟩
  rintro m τ9 ⟨rfl, m1, m2, m3, m4, m5⟩
  (repeat walk_at "mine_step")
  refine ⟨_, _, ws, ps, true, rfl, hw0, by (first | lia | omega), hw2, hpl, ?_⟩
  (repeat walk_at "mine_step")
  refine ⟨_, _, ws, ps, false, rfl, hw0, by (first | lia | omega), hw2, hpl, ?_⟩
  (repeat walk_at "mine_step")
  first | refine zqg (decide_eq_true hev.2) ?_ | refine zqe (decide_eq_true hev.2) ?_ | refine zqd (ndt hev.2) ?_ | refine zqf (ndt hev.2) ?_ | rw [decide_eq_true hev.2]
  (repeat walk_at "mine_step")
  refine ⟨i, ns, 4, rfl, g2.items h1, by (first | lia | omega), ?_⟩
  (repeat walk_at "mine_step")
  refine if_joinP (fun m τ' => ∃ (o : Nat) (qs : List Int), Grown τ9 τ' ∧ itemsAt τ' o = some (qs.map vInt) ∧ evenOk ws qs ∧ m ("_law_wishes" : Str) = some (.ref σ.length) ∧ m ("_law_others" : Str) = some (.ref o) ∧ m ("_law_found" : Str) = some (.ref n2) ∧ m ("_law_price" : Str) = some (.d (.int p))) (fun hc R hR => ?_) (fun hc R hR => ?_) ?_
  · (repeat walk_at "mine_step")
    refine ⟨_, _, ws, ps, rfl, hw0, by (first | lia | omega), hw2, hev, fun qs hqs => ?_⟩
    (repeat walk_at "mine_step")
    refine ⟨i, ns, 4, rfl, g2.snoc.items h1, by (first | lia | omega), ?_⟩
    (repeat walk_at "mine_step")
    refine ⟨fun hc => ?_, fun hc => ?_⟩
    · (repeat walk_at "mine_step")
      refine ⟨i, ns, 4, rfl, g2.snoc.items h1, by (first | lia | omega), ?_⟩
      (repeat walk_at "mine_step")
      refine ⟨_, _, ws, ps, _, rfl, Grown.refl.snoc.items hw0, by (first | lia | omega), Grown.refl.snoc.items hw2, hev, fun qs hqs => ?_⟩
      (repeat walk_at "mine_step")
      exact hR _ _ ⟨_, qs, Grown.refl.snoc.snoc, itemsAt_new, hqs, by ((repeat walk_at "mine_look"); done), by ((repeat walk_at "mine_look"); done), by ((repeat walk_at "mine_look"); done), by ((repeat walk_at "mine_look"); done)⟩
    · (repeat walk_at "mine_step")
      exact hR _ _ ⟨_, qs, Grown.refl.snoc, itemsAt_new, hqs, by ((repeat walk_at "mine_look"); done), by ((repeat walk_at "mine_look"); done), by ((repeat walk_at "mine_look"); done), by ((repeat walk_at "mine_look"); done)⟩
  · (repeat walk_at "mine_step")
    exact hR _ _ ⟨_, qs0, Grown.refl, hq1, ⟨hq0, he0⟩, by ((repeat walk_at "mine_look"); done), by ((repeat walk_at "mine_look"); done), by ((repeat walk_at "mine_look"); done), by ((repeat walk_at "mine_look"); done)⟩
  clear m1 m2 m3 m4 m5 hq1 m
  rintro m τ' ⟨o, qs, g, hq1, hqs, m1, m2, m3, m4⟩
  have hw0 := g.items hw0
  have hw2 := g.items hw2
  have g3 := g2.trans g
  clear g g2
  have hql := hqs.1.1
  obtain ⟨hb1, hb2⟩ := hbest hqs
  have w1 := worth_gained hpl _ (Nat.le_refl _)
  have w2 := worth_gained hql _ (Nat.le_refl _)
  (repeat walk_at "mine_step")
  refine ⟨_, hw0, by simp; (first | lia | omega), ?_⟩
  (repeat walk_at "mine_step")
  refine ⟨_, Grown.refl.snoc.items hw2, by simp; (first | lia | omega), ?_⟩
  (repeat walk_at "mine_step")
  refine ⟨_, Grown.refl.snoc.snoc.items hq1, by simp; (first | lia | omega), ?_⟩
  have a1 : itemsAt (τ' ++ [Cell.lst (ws.map Wish.v)] ++ [Cell.lst (ps.map vInt)] ++ [Cell.lst (qs.map vInt)]) τ'.length = some (ws.map Wish.v) := Grown.refl.snoc.snoc.items itemsAt_new
  have a2 : itemsAt (τ' ++ [Cell.lst (ws.map Wish.v)] ++ [Cell.lst (ps.map vInt)] ++ [Cell.lst (qs.map vInt)]) (τ' ++ [Cell.lst (ws.map Wish.v)]).length = some (ps.map vInt) := Grown.refl.snoc.items itemsAt_new
  have a3 : itemsAt (τ' ++ [Cell.lst (ws.map Wish.v)] ++ [Cell.lst (ps.map vInt)] ++ [Cell.lst (qs.map vInt)]) (τ' ++ [Cell.lst (ws.map Wish.v)] ++ [Cell.lst (ps.map vInt)]).length = some (qs.map vInt) := itemsAt_new
  have g4 : Grown τ' (τ' ++ [Cell.lst (ws.map Wish.v)] ++ [Cell.lst (ps.map vInt)] ++ [Cell.lst (qs.map vInt)]) := Grown.refl.snoc.snoc.snoc
  generalize (τ' ++ [Cell.lst (ws.map Wish.v)] ++ [Cell.lst (ps.map vInt)]).length = x3 at *
  generalize (τ' ++ [Cell.lst (ws.map Wish.v)]).length = x2 at *
  generalize τ' ++ [Cell.lst (ws.map Wish.v)] ++ [Cell.lst (ps.map vInt)] ++ [Cell.lst (qs.map vInt)] = υ at *
  generalize τ'.length = x1 at *
  have b1 := g4.items hw0
  have b2 := g4.items hw2
  have b3 := g4.items hq1
  have g5 := g3.trans g4
  clear hw0 hw2 hq1 g4 g3
  (repeat walk_at "mine_step")
  refine ⟨_, _, ws, ps, 0, rfl, Grown.refl.snoc.items b1, by (first | lia | omega), ho, Grown.refl.snoc.items b2, hev.1, ?_⟩
  (repeat walk_at "mine_step")
  refine ⟨_, _, ws, qs, 0, rfl, Grown.refl.snoc.items b1, by (first | lia | omega), ho, Grown.refl.snoc.items b3, hqs.1, ?_⟩
  (repeat walk_at "mine_step")
  refine zqa (Grown.refl.snoc.items itemsAt_new) (by decide) rfl ?_
  (repeat walk_at "mine_step")
  refine zqa (Grown.refl.snoc.items itemsAt_new) (by decide) rfl ?_
  (repeat walk_at "mine_step")
  refine ⟨_, ws, _, _, rfl, Grown.refl.snoc.snoc.items a1, by (first | lia | omega), ho, Grown.refl.snoc.snoc.items a2, by simp; (first | lia | omega), ⟨ps, rfl, hev.1, ?_⟩⟩
  rw [w1]
  (repeat walk_at "mine_step")
  refine zqa (Grown.refl.snoc.items itemsAt_new) (by decide) rfl ?_
  (repeat walk_at "mine_step")
  refine zqa (Grown.refl.snoc.items itemsAt_new) (by decide) rfl ?_
  (repeat walk_at "mine_step")
  refine ⟨_, ws, _, _, rfl, Grown.refl.snoc.snoc.items a1, by (first | lia | omega), ho, Grown.refl.snoc.snoc.items a3, by simp; (first | lia | omega), ⟨qs, rfl, hqs.1, ?_⟩⟩
  rw [w2]
  (repeat walk_at "mine_step")
  refine ne_ints (a := [gainedF ws ps 0 ws.length, gainedF ws qs 0 ws.length]) (b := [gainedF ws ps 0 ws.length, gainedF ws qs 0 ws.length]) itemsAt_new (Grown.refl.snoc.items itemsAt_new) ?_
  first | refine zqg (decide_eq_true rfl) ?_ | refine zqe (decide_eq_true rfl) ?_ | refine zqd (ndt rfl) ?_ | refine zqf (ndt rfl) ?_ | rw [decide_eq_true rfl]
  (repeat walk_at "mine_step")
  refine zqa (Grown.refl.snoc.items itemsAt_new) (v := .d (.int (gainedF ws qs 0 ws.length))) (by decide) rfl ?_
  (repeat walk_at "mine_step")
  first | refine zqd (decide_eq_false (show ¬ gainedF ws ps 0 ws.length < gainedF ws qs 0 ws.length by (first | lia | omega))) ?_ | refine zqf (decide_eq_false (show ¬ gainedF ws ps 0 ws.length < gainedF ws qs 0 ws.length by (first | lia | omega))) ?_ | refine zqg (ndf (show ¬ gainedF ws ps 0 ws.length < gainedF ws qs 0 ws.length by (first | lia | omega))) ?_ | refine zqe (ndf (show ¬ gainedF ws ps 0 ws.length < gainedF ws qs 0 ws.length by (first | lia | omega))) ?_ | rw [decide_eq_false (show ¬ gainedF ws ps 0 ws.length < gainedF ws qs 0 ws.length by (first | lia | omega))]
  (repeat walk_at "mine_step")
  refine ⟨_, _, ws, qs, p, rfl, Grown.refl.snoc.snoc.snoc.items b1, by (first | lia | omega), ho, Grown.refl.snoc.snoc.snoc.items b3, hqs.1, ?_⟩
  (repeat walk_at "mine_step")
  refine ⟨_, _, ws, ps, p, rfl, Grown.refl.snoc.snoc.snoc.items b1, by (first | lia | omega), ho, Grown.refl.snoc.snoc.snoc.items b2, hev.1, ?_⟩
  (repeat walk_at "mine_step")
  first | refine zqd (decide_eq_false (show ¬ gainedF ws ps p ws.length < gainedF ws qs p ws.length by (first | lia | omega))) ?_ | refine zqf (decide_eq_false (show ¬ gainedF ws ps p ws.length < gainedF ws qs p ws.length by (first | lia | omega))) ?_ | refine zqg (ndf (show ¬ gainedF ws ps p ws.length < gainedF ws qs p ws.length by (first | lia | omega))) ?_ | refine zqe (ndf (show ¬ gainedF ws ps p ws.length < gainedF ws qs p ws.length by (first | lia | omega))) ?_ | rw [decide_eq_false (show ¬ gainedF ws ps p ws.length < gainedF ws qs p ws.length by (first | lia | omega))]
  (repeat walk_at "mine_step")
  refine zqa (Grown.refl.snoc.snoc.items itemsAt_new) (by decide) rfl ?_
  (repeat walk_at "mine_step")
  refine zqa (Grown.refl.snoc.snoc.items itemsAt_new) (by decide) rfl ?_
  (repeat walk_at "mine_step")
  refine ⟨_, ws, _, _, rfl, Grown.refl.snoc.snoc.snoc.items a1, by (first | lia | omega), Grown.refl.snoc.snoc.snoc.items a2, by simp; (first | lia | omega), ⟨ps, rfl, hev.1, ⟨hev.2, fun found hd => ?_⟩⟩⟩
  (repeat walk_at "mine_step")
  refine eq_three (ws := ws) (ps := ps) (qs := qs) (Grown.refl.snoc.snoc.snoc.snoc.items itemsAt_new) itemsAt_new (Grown.refl.snoc.snoc.snoc.snoc.snoc.items a1) (Grown.refl.snoc.snoc.snoc.snoc.snoc.items a2) (Grown.refl.snoc.snoc.snoc.snoc.snoc.items a3) (Grown.refl.snoc.snoc.snoc.snoc.snoc.items b1) (Grown.refl.snoc.snoc.snoc.snoc.snoc.items b2) (Grown.refl.snoc.snoc.snoc.snoc.snoc.items b3) ?_
  (repeat walk_at "mine_step")
  refine ⟨_, _, _, ws, ps, found, p, rfl, Grown.refl.snoc.items itemsAt_new, Grown.refl.snoc.snoc.snoc.snoc.snoc.items b1, by (first | lia | omega), Grown.refl.snoc.snoc.snoc.snoc.snoc.items b2, hpl, hd, hdp hd, ?_⟩
  exact ret_data g5.snoc.snoc.snoc.snoc.snoc hK
end Mine

open PySem PySem.W PyProof.Rows
theorem Mine.hd.tw17311223219408574766 : True := trivial
theorem Mine.hd.tw17087091549796120035 : True := trivial
theorem Mine.hd.tw4972139816212722202 : True := trivial
theorem Mine.hd.tw15616948245753086127 : True := trivial
theorem Mine.hd.tw14892549342360969540 : True := trivial
theorem Mine.hd.tw978945382295711627 : True := trivial
theorem Mine.hd.tw5961118342813265553 : True := trivial
theorem Mine.hd.tw9641152695372364146 : True := trivial
theorem Mine.hd.tw11128854368766332075 : True := trivial
theorem Mine.hd.tw5781342201191254626 : True := trivial
theorem Mine.hd.tw17711083657039698284 : True := trivial
theorem Mine.hd.tw14620637471214046174 : True := trivial
theorem Mine.hd.tw12631932088317031055 : True := trivial
theorem Mine.hd.tw2867327485932766208 : True := trivial
theorem Mine.hd.tw15103106377680225435 : True := trivial
theorem Mine.hd.tw11652457597714270106 : True := trivial
theorem Mine.hd.tw3259873300814134281 : True := trivial
theorem Mine.hd.tw11117797201346649052 : True := trivial
theorem Mine.hd.tw2216850387143573719 : True := trivial
theorem Mine.hd.tw18322514126500204803 : True := trivial
theorem Mine.hd.tw6838551448383532254 : True := trivial
theorem Mine.hd.tw8671608845466749128 : True := trivial
theorem Mine.hd.tw8343274005884668182 : True := trivial
theorem Mine.hd.tw12936449754285732098 : True := trivial
theorem Mine.hd.tw13330244855972007585 : True := trivial
theorem Mine.hd.tw2478460114941205899 : True := trivial
theorem Mine.hd.tw2114630138375439770 : True := trivial
theorem Mine.hd.tw7752767780024739350 : True := trivial
theorem Mine.hd.tw17650839729002327288 : True := trivial
theorem Mine.hd.tw6528754448969337418 : True := trivial
theorem Mine.hd.tw17447410573909459338 : True := trivial
theorem Mine.hd.tw7540655947842036084 : True := trivial
theorem Mine.hd.tw14353793391729792155 : True := trivial
theorem Mine.hd.tw4014540891139286612 : True := trivial
theorem Mine.hd.tw12588582704262371052 : True := trivial
theorem Mine.hd.tw11953376511379268794 : True := trivial
theorem Mine.hd.tw11893437276241958245 : True := trivial
theorem Mine.hd.tw1382963296337349011 : True := trivial
theorem Mine.hd.tw18300207936620678264 : True := trivial
theorem Mine.hd.tw15368132723985388332 : True := trivial
theorem Mine.hd.tw13518370688599389936 : True := trivial
theorem Mine.hd.tw5278057926702712004 : True := trivial
theorem Mine.hd.tw6545403380812914513 : True := trivial
theorem Mine.hd.tw13609717118414637909 : True := trivial
theorem Mine.hd.tw12173100003817136821 : True := trivial
theorem Mine.hd.tw4478964076566166474 : True := trivial
theorem Mine.hd.tw12945789673552169428 : True := trivial
theorem Mine.hd.tw10111801491309104144 : True := trivial
theorem Mine.hd.tw10769903656890022913 : True := trivial
theorem Mine.hd.tw6819123309680001836 : True := trivial
theorem Mine.hd.tw17901334829092211166 : True := trivial
theorem Mine.hd.tw2950567485177654491 : True := trivial
theorem Mine.hd.tw3759623122121258479 : True := trivial
theorem Mine.hd.tw9421340871869096474 : True := trivial
theorem Mine.hd.tw2352558718584008940 : True := trivial
theorem Mine.hd.tw7914949630228597729 : True := trivial
theorem Mine.hd.tw16056359734778111409 : True := trivial
theorem Mine.hd.tw9277588360372424766 : True := trivial
theorem Mine.hd.tw5978321128707920903 : True := trivial
theorem Mine.hd.tw6060742912462422084 : True := trivial
theorem Mine.hd.tw2274498078352570744 : True := trivial
theorem Mine.hd.tw1129884963351977449 : True := trivial
theorem Mine.hd.tw10170382586518783626 : True := trivial
theorem Mine.hd.tw16412773359747925120 : True := trivial
theorem Mine.hd.tw10403243965636340961 : True := trivial
theorem Mine.hd.tw4225703048834024713 : True := trivial
theorem Mine.hd.tw4172343393113369950 : True := trivial
theorem Mine.hd.tw7366208706002141716 : True := trivial
theorem Mine.hd.tw16945582573551092051 : True := trivial
theorem Mine.hd.tw4015398097383911347 : True := trivial
theorem Mine.hd.tw16853341256802265648 : True := trivial
theorem Mine.hd.tw11213053971927718326 : True := trivial
theorem Mine.hd.tw15527848837575444561 : True := trivial
theorem Mine.hd.tw13828106393651249627 : True := trivial
theorem Mine.hd.tw10727248033764811480 : True := trivial
theorem Mine.hd.tw10784824025267889561 : True := trivial
theorem Mine.hd.tw14705683404202351889 : True := trivial
theorem Mine.hd.tw4272726840584523970 : True := trivial
theorem Mine.hd.tw12487502673411948298 : True := trivial
theorem Mine.hd.tw3109861748172591687 : True := trivial
theorem Mine.hd.tw6196171512934965099 : True := trivial
theorem Mine.hd.tw17950676927832955104 : True := trivial
theorem Mine.hd.tw10458740792067480800 : True := trivial
theorem Mine.hd.tw3219085151875037572 : True := trivial
theorem Mine.hd.tw1506431575118746342 : True := trivial
theorem Mine.hd.tw17183224562656869120 : True := trivial
theorem Mine.hd.tw15833661619300960221 : True := trivial
theorem Mine.hd.tw12112201142124510154 : True := trivial
theorem Mine.hd.tw17213754286329925777 : True := trivial
theorem Mine.hd.tw16091413853298234908 : True := trivial
theorem Mine.hd.tw16904818350239718627 : True := trivial
theorem Mine.hd.tw402640490398009360 : True := trivial
theorem Mine.hd.tw8716120427605611371 : True := trivial
theorem Mine.hd.tw15837987909243819085 : True := trivial
theorem Mine.hd.tw8960069828448710407 : True := trivial
theorem Mine.hd.tw7120233287515763914 : True := trivial
theorem Mine.hd.tw6276725880618359904 : True := trivial
theorem Mine.hd.tw15642763164714097627 : True := trivial
theorem Mine.hd.tw991583007596301734 : True := trivial
theorem Mine.hd.tw3789350110615891812 : True := trivial
theorem Mine.hd.tw12633595827127266219 : True := trivial
theorem Mine.hd.tw9170477692918782315 : True := trivial
theorem Mine.hd.tw18103342009636024947 : True := trivial
theorem Mine.hd.tw15967140613478806237 : True := trivial
theorem Mine.hd.tw16194383521188589630 : True := trivial
theorem Mine.hd.tw11210553801493137410 : True := trivial
theorem Mine.hd.tw6123773746684550334 : True := trivial
theorem Mine.hd.tw2735741816244006784 : True := trivial
theorem Mine.hd.tw1413172679324656950 : True := trivial
theorem Mine.hd.tw9719896912496429819 : True := trivial
theorem Mine.hd.tw5902613922787404954 : True := trivial
theorem Mine.hd.tw1580110805410547442 : True := trivial
theorem Mine.hd.tw12949589719889679912 : True := trivial
theorem Mine.hd.tw8268277133935991078 : True := trivial
theorem Mine.hd.tw14955159897011116063 : True := trivial
theorem Mine.hd.tw10246146449241189800 : True := trivial
theorem Mine.hd.tw5130813555471234732 : True := trivial
theorem Mine.hd.tw15089522573102190283 : True := trivial
theorem Mine.hd.tw11513968764499736323 : True := trivial
theorem Mine.hd.tw16299908979028503884 : True := trivial
theorem Mine.hd.tw1359830224848277088 : True := trivial
theorem Mine.hd.tw11054480109507316185 : True := trivial
theorem Mine.hd.tw11631947586910100387 : True := trivial
theorem Mine.hd.tw14560493823538711346 : True := trivial
theorem Mine.hd.tw16634568088961857937 : True := trivial
theorem Mine.hd.tw6164396464334811476 : True := trivial
theorem Mine.hd.tw2101469004524951375 : True := trivial
theorem Mine.hd.tw15936815454951572811 : True := trivial
theorem Mine.hd.tw15615537253650120727 : True := trivial
theorem Mine.hd.tw8025032847418708242 : True := trivial
theorem Mine.hd.tw464777395874653626 : True := trivial
theorem Mine.hd.tw1013155817946168525 : True := trivial
theorem Mine.hd.tw1011335219593555734 : True := trivial
theorem Mine.hd.tw12399718760709695909 : True := trivial
theorem Mine.hd.tw1222794163293265305 : True := trivial
theorem Mine.hd.tw4360684699965382250 : True := trivial
theorem Mine.hd.tw10360471539772378328 : True := trivial
theorem Mine.hd.tw8735263284916673568 : True := trivial
theorem Mine.hd.tw17893044597097874663 : True := trivial
theorem Mine.hd.tw13267510147771200024 : True := trivial
theorem Mine.hd.tw11032806212648032379 : True := trivial
theorem Mine.hd.tw15042006015671813226 : True := trivial
theorem Mine.hd.tw8112040973832200146 : True := trivial
theorem Mine.hd.tw18343703819029505601 : True := trivial
theorem Mine.hd.tw8959176491354863721 : True := trivial
theorem Mine.hd.tw2930668341846507884 : True := trivial
theorem Mine.hd.tw7023726343779634624 : True := trivial
theorem Mine.hd.tw5511420028821071320 : True := trivial
theorem Mine.hd.tw9741134391959003819 : True := trivial
theorem Mine.hd.tw10949625832625181284 : True := trivial
theorem Mine.hd.tw16722109127936396110 : True := trivial
theorem Mine.hd.tw5657824000916062451 : True := trivial
theorem Mine.hd.tw11402939732021071671 : True := trivial
theorem Mine.hd.tw5608270528595127837 : True := trivial
theorem Mine.hd.tw6555240042291301478 : True := trivial
theorem Mine.hd.tw6411954120941647267 : True := trivial
theorem Mine.hd.tw922143313871775805 : True := trivial
theorem Mine.hd.tw10792051664901133789 : True := trivial
theorem Mine.hd.tw6785817131721698500 : True := trivial
theorem Mine.hd.tw17258206423299326598 : True := trivial
theorem Mine.hd.tw12070051907170230399 : True := trivial
theorem Mine.hd.tw11232374478483605306 : True := trivial
theorem Mine.hd.tw9345676750909349944 : True := trivial
theorem Mine.hd.tw2442259710966052079 : True := trivial
theorem Mine.hd.tw2603259988358896889 : True := trivial
theorem Mine.hd.tw17714235663813219645 : True := trivial
theorem Mine.hd.tw10614716105012338702 : True := trivial
theorem Mine.hd.tw1800889605409440832 : True := trivial
theorem Mine.hd.tw9960721518486171458 : True := trivial
theorem Mine.hd.tw1097998534492414930 : True := trivial
theorem Mine.hd.tw16007149819294483003 : True := trivial
theorem Mine.hd.tw17903497710992402801 : True := trivial
theorem Mine.hd.tw9345929723534960622 : True := trivial
theorem Mine.hd.tw3919010098100093602 : True := trivial
theorem Mine.hd.tw17054507655720011243 : True := trivial
theorem Mine.hd.tw11389486352061984695 : True := trivial
theorem Mine.hd.tw1760603350576429475 : True := trivial
theorem Mine.hd.tw16920754564084929960 : True := trivial
theorem Mine.hd.tw17975533764899295144 : True := trivial
theorem Mine.hd.tw16868993833207775613 : True := trivial
theorem Mine.hd.tw4402725079659364252 : True := trivial
theorem Mine.hd.tw1600037746751723098 : True := trivial
theorem Mine.hd.tw8458067239894703972 : True := trivial
theorem Mine.hd.tw13770079208771991547 : True := trivial
theorem Mine.hd.tw11319892378374348655 : True := trivial
theorem Mine.hd.tw3452082135128663414 : True := trivial
theorem Mine.hd.tw728884934406724761 : True := trivial
theorem Mine.hd.tw13368278939475635651 : True := trivial
theorem Mine.hd.tw11465210709893060100 : True := trivial
theorem Mine.hd.tw11319097763535126812 : True := trivial
theorem Mine.hd.tw15759970867653108152 : True := trivial
theorem Mine.hd.tw6407587892757256292 : True := trivial
theorem Mine.hd.tw4086058157674990017 : True := trivial
theorem Mine.hd.tw395138700845864316 : True := trivial
theorem Mine.hd.tw9673543361469618366 : True := trivial
theorem Mine.hd.tw8457440626546761165 : True := trivial
theorem Mine.hd.tw9566141503761928105 : True := trivial
theorem Mine.hd.tw3571134770919094901 : True := trivial
theorem Mine.hd.tw16345102440705955213 : True := trivial
theorem Mine.hd.tw512641396559190090 : True := trivial
theorem Mine.hd.tw12647368939536790636 : True := trivial
theorem Mine.hd.tw16240987189780228909 : True := trivial
theorem Mine.hd.tw11754176132448286083 : True := trivial
theorem Mine.hd.tw3493717111155160527 : True := trivial
theorem Mine.hd.tw22551697357593593 : True := trivial
theorem Mine.hd.tw6291416237084387574 : True := trivial
theorem Mine.hd.tw7355570028127101125 : True := trivial
theorem Mine.hd.tw6767318904944593275 : True := trivial
theorem Mine.hd.tw10601615944963115059 : True := trivial
theorem Mine.hd.tw12271959270614036898 : True := trivial
theorem Mine.hd.tw361874862225718299 : True := trivial
theorem Mine.hd.tw2608437505485318709 : True := trivial
theorem Mine.hd.tw3646829019195819677 : True := trivial
theorem Mine.hd.tw4971549296188076032 : True := trivial
theorem Mine.hd.tw17177331786930743035 : True := trivial
theorem Mine.hd.tw7289634563603522867 : True := trivial
theorem Mine.hd.tw17542962492245011380 : True := trivial
theorem Mine.hd.tw17252143746492648416 : True := trivial
theorem Mine.hd.tw14457593812595234344 : True := trivial
theorem Mine.hd.tw5343241284826551009 : True := trivial
theorem Mine.hd.tw11162318198679636149 : True := trivial
theorem Mine.hd.tw18219297243305740317 : True := trivial
theorem Mine.hd.tw4702841417184801058 : True := trivial
theorem Mine.hd.tw11660266114150955751 : True := trivial
theorem Mine.hd.tw16477043939570097188 : True := trivial
theorem Mine.hd.tw3229955645248102723 : True := trivial
theorem Mine.hd.tw5355321495217300903 : True := trivial
theorem Mine.hd.tw9014375795449043846 : True := trivial
theorem Mine.hd.tw2887051446865420828 : True := trivial
theorem Mine.hd.tw9657781627882305391 : True := trivial
theorem Mine.hd.tw2068664650715991707 : True := trivial
theorem Mine.hd.tw5190246844813560578 : True := trivial
theorem Mine.hd.tw12918565142340964572 : True := trivial
theorem Mine.hd.tw14103535550066685397 : True := trivial
theorem Mine.hd.tw26425463804135960 : True := trivial
theorem Mine.hd.tw3350844169311001129 : True := trivial
theorem Mine.hd.tw16432713993328977331 : True := trivial
theorem Mine.hd.tw7028611270464810887 : True := trivial
theorem Mine.hd.tw8228950375871286339 : True := trivial
theorem Mine.hd.tw16064382804478563927 : True := trivial
theorem Mine.hd.tw17062030032774818151 : True := trivial
theorem Mine.hd.tw6305734824756694309 : True := trivial
theorem Mine.hd.tw2708950531961675432 : True := trivial
theorem Mine.hd.tw4494801613693538912 : True := trivial
theorem Mine.hd.tw3846061349045661252 : True := trivial
theorem Mine.hd.tw10424393626065333798 : True := trivial
theorem Mine.hd.tw1439246655266547700 : True := trivial
theorem Mine.hd.tw12023040214023829324 : True := trivial
set_option Elab.async true
set_option maxRecDepth 100000 in
set_option maxHeartbeats 8000000 in
theorem Mine.hd : PySem.Challenge.rw_uf040040_13.Holds := by
  w_on
  o_law
  k_head
  (case hw => w_witness2)
  k_fill
  intro w s₀ s₁ mg mb G Y fa o pm cd doc dV kV ho hd hcd hD hmg hg args vals as hpre hlay hrd hwl hlo
  have KX := km_in_of Y
  refine Ground.open G ?_
  intro T B D TE TW
  obtain ⟨c9, P, tb⟩ := Mine.tab_of_top (f := "ranked") T 9 (by kernel_rfl)
  wrow_args hpre hlay hrd hwl hlo
  clear hd hcd hD ho Y B D TE TW G
  open Mine in
  refine Mine.law_endL tb (k := 131) (X := ⟨_, w, (hideAll s₁.heap [P]), mg, mb, fun _ => False⟩) ?_ (by decide) (fun _ q => q) hmg rfl (by assumption) (by assumption) ?_
  · have cx : ∀ bd, CxOk (Cx.mk Challenge.rw_uf040040_13.row.prog w (hideAll s₁.heap [P]) mg mb bd) := fun bd => cx_ghost tb T
    have cxb : ∀ bd, CxB (Cx.mk Challenge.rw_uf040040_13.row.prog w (hideAll s₁.heap [P]) mg mb bd) := fun bd => (cxb_of_top (h := s₁.heap) (bd := bd) T (by decide +kernel) : CxB (Cx.mk Challenge.rw_uf040040_13.row.prog w s₁.heap mg mb bd))
    have f_num : ∀ bd, ValidF (Cx.mk Challenge.rw_uf040040_13.row.prog w (hideAll s₁.heap [P]) mg mb bd) 101 ("is_number" : Str) numT := fun bd => v_num (X := (Cx.mk Challenge.rw_uf040040_13.row.prog w (hideAll s₁.heap [P]) mg mb bd)) (k := 100) (fam := (["BidError", "BadPrice", "BadPieces", "Uneven"] : List Str)) (cx bd) (by decide) (cxb bd _ (.tail _ (.tail _ (.tail _ (.tail _ (.tail _ (.tail _ (.tail _ (.tail _ (.tail _ (.tail _ (.tail _ (.tail _ (.tail _ (.tail _ (.head _)))))))))))))))) (valid_isi (cxb bd)) (⟨_, cxb bd _ (.tail _ (.tail _ (.tail _ (.tail _ (.tail _ (.tail _ (.tail _ (.tail _ (.tail _ (.tail _ (.head _)))))))))))⟩) (⟨_, cxb bd _ (.tail _ (.tail _ (.tail _ (.tail _ (.tail _ (.tail _ (.tail _ (.tail _ (.tail _ (.tail _ (.tail _ (.head _))))))))))))⟩) rfl (isFn_ghost tb T 0 (by kernel_rfl) rfl rfl rfl rfl)
    have f_wanted : ∀ bd, ValidF (Cx.mk Challenge.rw_uf040040_13.row.prog w (hideAll s₁.heap [P]) mg mb bd) 102 ("wanted" : Str) wantedT := fun bd => v_wanted (X := (Cx.mk Challenge.rw_uf040040_13.row.prog w (hideAll s₁.heap [P]) mg mb bd)) (k := 101) (fam := (["BidError", "BadPrice", "BadPieces", "Uneven"] : List Str)) (cx bd) (by decide) (cxb bd _ (.tail _ (.tail _ (.tail _ (.tail _ (.tail _ (.tail _ (.tail _ (.tail _ (.tail _ (.tail _ (.tail _ (.tail _ (.tail _ (.tail _ (.head _)))))))))))))))) (valid_sum (by decide) (cxb bd)) rfl (isFn_ghost tb T 1 (by kernel_rfl) rfl rfl rfl rfl)
    have f_offered : ∀ bd, ValidF (Cx.mk Challenge.rw_uf040040_13.row.prog w (hideAll s₁.heap [P]) mg mb bd) 103 ("offered" : Str) offeredT := fun bd => v_offered (X := (Cx.mk Challenge.rw_uf040040_13.row.prog w (hideAll s₁.heap [P]) mg mb bd)) (k := 102) (fam := (["BidError", "BadPrice", "BadPieces", "Uneven"] : List Str)) (cx bd) (by decide) (cxb bd _ (.tail _ (.tail _ (.tail _ (.tail _ (.tail _ (.tail _ (.tail _ (.tail _ (.tail _ (.tail _ (.tail _ (.tail _ (.tail _ (.tail _ (.head _)))))))))))))))) (valid_sum (by decide) (cxb bd)) rfl (isFn_ghost tb T 2 (by kernel_rfl) rfl rfl rfl rfl)
    have f_need_price : ∀ bd, ValidF (Cx.mk Challenge.rw_uf040040_13.row.prog w (hideAll s₁.heap [P]) mg mb bd) 104 ("need_price" : Str) need_priceT := fun bd => v_need_price (X := (Cx.mk Challenge.rw_uf040040_13.row.prog w (hideAll s₁.heap [P]) mg mb bd)) (k := 103) (fam := (["BidError", "BadPrice", "BadPieces", "Uneven"] : List Str)) (cx bd) (by decide) (cxb bd _ (.tail _ (.tail _ (.tail _ (.tail _ (.tail _ (.tail _ (.tail _ (.tail _ (.tail _ (.tail _ (.tail _ (.tail _ (.tail _ (.tail _ (.head _)))))))))))))))) ((f_num bd).mono (by decide)) (const_of_top (prog := Challenge.rw_uf040040_13.row.prog) (w := w) (bd := bd) T (by kernel_rfl)) rfl (isFn_ghost tb T 3 (by kernel_rfl) rfl rfl rfl rfl)
    have f_is_enough : ∀ bd, ValidF (Cx.mk Challenge.rw_uf040040_13.row.prog w (hideAll s₁.heap [P]) mg mb bd) 105 ("is_enough" : Str) is_enoughT := fun bd => v_is_enough (X := (Cx.mk Challenge.rw_uf040040_13.row.prog w (hideAll s₁.heap [P]) mg mb bd)) (k := 104) (fam := (["BidError", "BadPrice", "BadPieces", "Uneven"] : List Str)) (cx bd) (by decide) (cxb bd _ (.tail _ (.tail _ (.tail _ (.tail _ (.tail _ (.tail _ (.tail _ (.tail _ (.tail _ (.tail _ (.tail _ (.tail _ (.tail _ (.tail _ (.head _)))))))))))))))) ((f_wanted bd).mono (by decide)) ((f_offered bd).mono (by decide)) rfl (isFn_ghost tb T 4 (by kernel_rfl) rfl rfl rfl rfl)
    have f_is_sold : ∀ bd, ValidF (Cx.mk Challenge.rw_uf040040_13.row.prog w (hideAll s₁.heap [P]) mg mb bd) 106 ("is_sold" : Str) is_soldT := fun bd => v_is_sold (X := (Cx.mk Challenge.rw_uf040040_13.row.prog w (hideAll s₁.heap [P]) mg mb bd)) (k := 105) (fam := (["BidError", "BadPrice", "BadPieces", "Uneven"] : List Str)) (cx bd) (by decide) (cxb bd _ (.tail _ (.tail _ (.tail _ (.tail _ (.tail _ (.tail _ (.tail _ (.tail _ (.tail _ (.tail _ (.tail _ (.tail _ (.tail _ (.tail _ (.head _)))))))))))))))) ((f_offered bd).mono (by decide)) ((f_wanted bd).mono (by decide)) rfl (isFn_ghost tb T 5 (by kernel_rfl) rfl rfl rfl rfl)
    have f_lowest : ∀ bd, ValidF (Cx.mk Challenge.rw_uf040040_13.row.prog w (hideAll s₁.heap [P]) mg mb bd) 107 ("lowest" : Str) lowestT := fun bd => v_lowest (X := (Cx.mk Challenge.rw_uf040040_13.row.prog w (hideAll s₁.heap [P]) mg mb bd)) (k := 106) (fam := (["BidError", "BadPrice", "BadPieces", "Uneven"] : List Str)) (cx bd) (by decide) (cxb bd _ (.tail _ (.tail _ (.tail _ (.tail _ (.tail _ (.tail _ (.tail _ (.tail _ (.tail _ (.tail _ (.tail _ (.tail _ (.tail _ (.tail _ (.head _)))))))))))))))) ((f_is_enough bd).mono (by decide)) (const_of_top (prog := Challenge.rw_uf040040_13.row.prog) (w := w) (bd := bd) T (by kernel_rfl)) rfl (isFn_ghost tb T 6 (by kernel_rfl) rfl rfl rfl rfl)
    have f_highest : ∀ bd, ValidF (Cx.mk Challenge.rw_uf040040_13.row.prog w (hideAll s₁.heap [P]) mg mb bd) 108 ("highest" : Str) highestT := fun bd => v_highest (X := (Cx.mk Challenge.rw_uf040040_13.row.prog w (hideAll s₁.heap [P]) mg mb bd)) (k := 107) (fam := (["BidError", "BadPrice", "BadPieces", "Uneven"] : List Str)) (cx bd) (by decide) (cxb bd _ (.tail _ (.tail _ (.tail _ (.tail _ (.tail _ (.tail _ (.tail _ (.tail _ (.tail _ (.tail _ (.tail _ (.tail _ (.tail _ (.tail _ (.head _)))))))))))))))) ((f_is_sold bd).mono (by decide)) (const_of_top (prog := Challenge.rw_uf040040_13.row.prog) (w := w) (bd := bd) T (by kernel_rfl)) rfl (isFn_ghost tb T 7 (by kernel_rfl) rfl rfl rfl rfl)
    have f_pby : ∀ bd, ValidF (Cx.mk Challenge.rw_uf040040_13.row.prog w (hideAll s₁.heap [P]) mg mb bd) 109 ("price_by" : Str) pbyT := fun bd => v_pby (X := (Cx.mk Challenge.rw_uf040040_13.row.prog w (hideAll s₁.heap [P]) mg mb bd)) (k := 108) (fam := (["BidError", "BadPrice", "BadPieces", "Uneven"] : List Str)) (cx bd) (by decide) (cxb bd _ (.tail _ (.tail _ (.tail _ (.tail _ (.tail _ (.tail _ (.tail _ (.tail _ (.tail _ (.tail _ (.tail _ (.tail _ (.tail _ (.tail _ (.head _)))))))))))))))) ((f_need_price bd).mono (by decide)) ((f_lowest bd).mono (by decide)) ((f_highest bd).mono (by decide)) (valid_min (by decide) (cxb bd)) (valid_max (by decide) (cxb bd)) rfl (isFn_ghost tb T 8 (by kernel_rfl) rfl rfl rfl rfl)
    have f_ranked : ∀ bd, ValidF (Cx.mk Challenge.rw_uf040040_13.row.prog w (hideAll s₁.heap [P]) mg mb bd) 110 ("ranked" : Str) (rankedT P) := fun bd => v_ranked (X := (Cx.mk Challenge.rw_uf040040_13.row.prog w (hideAll s₁.heap [P]) mg mb bd)) (k := 109) (fam := (["BidError", "BadPrice", "BadPieces", "Uneven"] : List Str)) (cx bd) (by decide) (cxb bd _ (.tail _ (.tail _ (.tail _ (.tail _ (.tail _ (.tail _ (.tail _ (.tail _ (.tail _ (.tail _ (.tail _ (.tail _ (.tail _ (.tail _ (.head _)))))))))))))))) (cxb bd _ (.tail _ (.tail _ (.tail _ (.tail _ (.tail _ (.tail _ (.head _)))))))) (valid_len (cxb bd)) (valid_range (cxb bd)) rfl (fnP_ghost tb T 9 (by kernel_rfl) rfl rfl rfl rfl rfl)
    have f_pieces_at : ∀ bd, ValidF (Cx.mk Challenge.rw_uf040040_13.row.prog w (hideAll s₁.heap [P]) mg mb bd) 111 ("pieces_at" : Str) (pieces_atT P) := fun bd => v_pieces_at (X := (Cx.mk Challenge.rw_uf040040_13.row.prog w (hideAll s₁.heap [P]) mg mb bd)) (k := 110) (fam := (["BidError", "BadPrice", "BadPieces", "Uneven"] : List Str)) (cx bd) (by decide) (cxb bd _ (.tail _ (.tail _ (.tail _ (.tail _ (.tail _ (.tail _ (.tail _ (.tail _ (.tail _ (.tail _ (.tail _ (.tail _ (.tail _ (.tail _ (.head _)))))))))))))))) ((f_need_price bd).mono (by decide)) ((f_wanted bd).mono (by decide)) ((f_offered bd).mono (by decide)) (valid_min (by decide) (cxb bd)) ((f_ranked bd).mono (by decide)) rfl (isFn_ghost tb T 10 (by kernel_rfl) rfl rfl rfl rfl)
    have f_need_pieces : ∀ bd, ValidF (Cx.mk Challenge.rw_uf040040_13.row.prog w (hideAll s₁.heap [P]) mg mb bd) 112 ("need_pieces" : Str) need_piecesT := fun bd => v_need_pieces (X := (Cx.mk Challenge.rw_uf040040_13.row.prog w (hideAll s₁.heap [P]) mg mb bd)) (k := 111) (fam := (["BidError", "BadPrice", "BadPieces", "Uneven"] : List Str)) (fun bd => cx bd) (fun bd => by decide) (fun bd => cxb bd _ (.tail _ (.tail _ (.tail _ (.tail _ (.tail _ (.tail _ (.tail _ (.tail _ (.tail _ (.tail _ (.tail _ (.tail _ (.tail _ (.tail _ (.head _)))))))))))))))) (fun bd => valid_isi (cxb bd)) (fun bd => valid_len (cxb bd)) (fun bd => (f_num bd).mono (by decide)) (fun bd => ⟨_, cxb bd _ (.tail _ (.tail _ (.tail _ (.tail _ (.tail _ (.tail _ (.tail _ (.tail _ (.head _)))))))))⟩) rfl (isFn_ghost tb T 11 (by kernel_rfl) rfl rfl rfl rfl)
    have f_worth : ∀ bd, ValidF (Cx.mk Challenge.rw_uf040040_13.row.prog w (hideAll s₁.heap [P]) mg mb bd) 113 ("worth" : Str) worthT := fun bd => v_worth (X := (Cx.mk Challenge.rw_uf040040_13.row.prog w (hideAll s₁.heap [P]) mg mb bd)) (k := 112) (fam := (["BidError", "BadPrice", "BadPieces", "Uneven"] : List Str)) (fun bd => cx bd) (fun bd => by decide) (fun bd => cxb bd _ (.tail _ (.tail _ (.tail _ (.tail _ (.tail _ (.tail _ (.tail _ (.tail _ (.tail _ (.tail _ (.tail _ (.tail _ (.tail _ (.tail _ (.head _)))))))))))))))) (fun bd => (f_need_pieces bd).mono (by decide)) rfl (isFn_ghost tb T 12 (by kernel_rfl) rfl rfl rfl rfl)
    have f_side_sum : ∀ bd, ValidF (Cx.mk Challenge.rw_uf040040_13.row.prog w (hideAll s₁.heap [P]) mg mb bd) 114 ("side_sum" : Str) side_sumT := fun bd => v_side_sum (X := (Cx.mk Challenge.rw_uf040040_13.row.prog w (hideAll s₁.heap [P]) mg mb bd)) (k := 113) (fam := (["BidError", "BadPrice", "BadPieces", "Uneven"] : List Str)) (cx bd) (by decide) (cxb bd _ (.tail _ (.tail _ (.tail _ (.tail _ (.tail _ (.tail _ (.tail _ (.tail _ (.tail _ (.tail _ (.tail _ (.tail _ (.tail _ (.tail _ (.head _)))))))))))))))) (valid_sum (by decide) (cxb bd)) (valid_range (cxb bd)) (valid_len (cxb bd)) rfl (isFn_ghost tb T 13 (by kernel_rfl) rfl rfl rfl rfl)
    have f_even : ∀ bd, ValidF (Cx.mk Challenge.rw_uf040040_13.row.prog w (hideAll s₁.heap [P]) mg mb bd) 115 ("even" : Str) evenT := fun bd => v_even (X := (Cx.mk Challenge.rw_uf040040_13.row.prog w (hideAll s₁.heap [P]) mg mb bd)) (k := 114) (fam := (["BidError", "BadPrice", "BadPieces", "Uneven"] : List Str)) (cx bd) (by decide) (cxb bd _ (.tail _ (.tail _ (.tail _ (.tail _ (.tail _ (.tail _ (.tail _ (.tail _ (.tail _ (.tail _ (.tail _ (.tail _ (.tail _ (.tail _ (.head _)))))))))))))))) ((f_need_pieces bd).mono (by decide)) ((f_side_sum bd).mono (by decide)) rfl (isFn_ghost tb T 14 (by kernel_rfl) rfl rfl rfl rfl)
    have f_pairs : ∀ bd, ValidF (Cx.mk Challenge.rw_uf040040_13.row.prog w (hideAll s₁.heap [P]) mg mb bd) 116 ("pairs" : Str) pairsT := fun bd => v_pairs (X := (Cx.mk Challenge.rw_uf040040_13.row.prog w (hideAll s₁.heap [P]) mg mb bd)) (k := 115) (fam := (["BidError", "BadPrice", "BadPieces", "Uneven"] : List Str)) (cx bd) (by decide) (cxb bd _ (.tail _ (.tail _ (.tail _ (.tail _ (.tail _ (.tail _ (.tail _ (.tail _ (.tail _ (.tail _ (.tail _ (.tail _ (.tail _ (.tail _ (.head _)))))))))))))))) ((f_even bd).mono (by decide)) (valid_list (cxb bd)) (valid_range (cxb bd)) (valid_len (cxb bd)) (valid_min (by decide) (cxb bd)) (valid_append) rfl (isFn_ghost tb T 15 (by kernel_rfl) rfl rfl rfl rfl)
    have f_cell_at : ∀ bd, ValidF (Cx.mk Challenge.rw_uf040040_13.row.prog w (hideAll s₁.heap [P]) mg mb bd) 117 ("_law_cell_at" : Str) cell_atT := fun bd => v_cell_at (X := (Cx.mk Challenge.rw_uf040040_13.row.prog w (hideAll s₁.heap [P]) mg mb bd)) (k := 116) (fam := (["BidError", "BadPrice", "BadPieces", "Uneven"] : List Str)) (cx bd) (by decide) (cxb bd _ (.tail _ (.tail _ (.tail _ (.tail _ (.tail _ (.tail _ (.tail _ (.tail _ (.tail _ (.tail _ (.tail _ (.tail _ (.tail _ (.tail _ (.head _)))))))))))))))) (valid_len (cxb bd)) rfl (isFn_ghost tb T 16 (by kernel_rfl) rfl rfl rfl rfl)
    have f_whole : ∀ bd, ValidF (Cx.mk Challenge.rw_uf040040_13.row.prog w (hideAll s₁.heap [P]) mg mb bd) 118 ("_law_whole" : Str) wholeT := fun bd => v_whole (X := (Cx.mk Challenge.rw_uf040040_13.row.prog w (hideAll s₁.heap [P]) mg mb bd)) (k := 117) (fam := (["BidError", "BadPrice", "BadPieces", "Uneven"] : List Str)) (cx bd) (by decide) (cxb bd _ (.tail _ (.tail _ (.tail _ (.tail _ (.tail _ (.tail _ (.tail _ (.tail _ (.tail _ (.tail _ (.tail _ (.tail _ (.tail _ (.tail _ (.head _)))))))))))))))) (valid_isi (cxb bd)) (⟨_, cxb bd _ (.tail _ (.tail _ (.tail _ (.tail _ (.tail _ (.tail _ (.tail _ (.tail _ (.tail _ (.tail _ (.head _)))))))))))⟩) (⟨_, cxb bd _ (.tail _ (.tail _ (.tail _ (.tail _ (.tail _ (.tail _ (.tail _ (.tail _ (.tail _ (.tail _ (.tail _ (.head _))))))))))))⟩) rfl (isFn_ghost tb T 17 (by kernel_rfl) rfl rfl rfl rfl)
    have f_wish_by : ∀ bd, ValidF (Cx.mk Challenge.rw_uf040040_13.row.prog w (hideAll s₁.heap [P]) mg mb bd) 119 ("_law_wish_by" : Str) wish_byT := fun bd => v_wish_by (X := (Cx.mk Challenge.rw_uf040040_13.row.prog w (hideAll s₁.heap [P]) mg mb bd)) (k := 118) (fam := (["BidError", "BadPrice", "BadPieces", "Uneven"] : List Str)) (cx bd) (by decide) (cxb bd _ (.tail _ (.tail _ (.tail _ (.tail _ (.tail _ (.tail _ (.tail _ (.tail _ (.tail _ (.tail _ (.tail _ (.tail _ (.tail _ (.tail _ (.head _)))))))))))))))) rfl (isFn_ghost tb T 18 (by kernel_rfl) rfl rfl rfl rfl)
    have f_wishes_by : ∀ bd, ValidF (Cx.mk Challenge.rw_uf040040_13.row.prog w (hideAll s₁.heap [P]) mg mb bd) 120 ("_law_wishes_by" : Str) wishes_byT := fun bd => v_wishes_by (X := (Cx.mk Challenge.rw_uf040040_13.row.prog w (hideAll s₁.heap [P]) mg mb bd)) (k := 119) (fam := (["BidError", "BadPrice", "BadPieces", "Uneven"] : List Str)) (cx bd) (by decide) (cxb bd _ (.tail _ (.tail _ (.tail _ (.tail _ (.tail _ (.tail _ (.tail _ (.tail _ (.tail _ (.tail _ (.tail _ (.tail _ (.tail _ (.tail _ (.head _)))))))))))))))) (valid_len (cxb bd)) ((f_wish_by bd).mono (by decide)) ((f_cell_at bd).mono (by decide)) (valid_range (cxb bd)) (valid_append) rfl (isFn_ghost tb T 19 (by kernel_rfl) rfl rfl rfl rfl)
    have f_price_by : ∀ bd, ValidF (Cx.mk Challenge.rw_uf040040_13.row.prog w (hideAll s₁.heap [P]) mg mb bd) 121 ("_law_price_by" : Str) price_byT := fun bd => v_price_by (X := (Cx.mk Challenge.rw_uf040040_13.row.prog w (hideAll s₁.heap [P]) mg mb bd)) (k := 120) (fam := (["BidError", "BadPrice", "BadPieces", "Uneven"] : List Str)) (cx bd) (by decide) (cxb bd _ (.tail _ (.tail _ (.tail _ (.tail _ (.tail _ (.tail _ (.tail _ (.tail _ (.tail _ (.tail _ (.tail _ (.tail _ (.tail _ (.tail _ (.head _)))))))))))))))) (valid_len (cxb bd)) (valid_max (by decide) (cxb bd)) (valid_min (by decide) (cxb bd)) rfl (isFn_ghost tb T 20 (by kernel_rfl) rfl rfl rfl rfl)
    have f_pieces_by : ∀ bd, ValidF (Cx.mk Challenge.rw_uf040040_13.row.prog w (hideAll s₁.heap [P]) mg mb bd) 122 ("_law_pieces_by" : Str) pieces_byT := fun bd => v_pieces_by (X := (Cx.mk Challenge.rw_uf040040_13.row.prog w (hideAll s₁.heap [P]) mg mb bd)) (k := 121) (fam := (["BidError", "BadPrice", "BadPieces", "Uneven"] : List Str)) (cx bd) (by decide) (cxb bd _ (.tail _ (.tail _ (.tail _ (.tail _ (.tail _ (.tail _ (.tail _ (.tail _ (.tail _ (.tail _ (.tail _ (.tail _ (.tail _ (.tail _ (.head _)))))))))))))))) (valid_len (cxb bd)) (valid_range (cxb bd)) (valid_append) rfl (isFn_ghost tb T 21 (by kernel_rfl) rfl rfl rfl rfl)
    have f_lside : ∀ bd, ValidF (Cx.mk Challenge.rw_uf040040_13.row.prog w (hideAll s₁.heap [P]) mg mb bd) 123 ("_law_side" : Str) lsideT := fun bd => v_lside (X := (Cx.mk Challenge.rw_uf040040_13.row.prog w (hideAll s₁.heap [P]) mg mb bd)) (k := 122) (fam := (["BidError", "BadPrice", "BadPieces", "Uneven"] : List Str)) (cx bd) (by decide) (cxb bd _ (.tail _ (.tail _ (.tail _ (.tail _ (.tail _ (.tail _ (.tail _ (.tail _ (.tail _ (.tail _ (.tail _ (.tail _ (.tail _ (.tail _ (.head _)))))))))))))))) (valid_sum (by decide) (cxb bd)) (valid_range (cxb bd)) (valid_len (cxb bd)) rfl (isFn_ghost tb T 22 (by kernel_rfl) rfl rfl rfl rfl)
    have f_evened : ∀ bd, ValidF (Cx.mk Challenge.rw_uf040040_13.row.prog w (hideAll s₁.heap [P]) mg mb bd) 124 ("_law_evened" : Str) evenedT := fun bd => v_evened (X := (Cx.mk Challenge.rw_uf040040_13.row.prog w (hideAll s₁.heap [P]) mg mb bd)) (k := 123) (fam := (["BidError", "BadPrice", "BadPieces", "Uneven"] : List Str)) (cx bd) (by decide) (cxb bd _ (.tail _ (.tail _ (.tail _ (.tail _ (.tail _ (.tail _ (.tail _ (.tail _ (.tail _ (.tail _ (.tail _ (.tail _ (.tail _ (.tail _ (.head _)))))))))))))))) ((f_lside bd).mono (by decide)) (valid_len (cxb bd)) (valid_range (cxb bd)) (valid_min (by decide) (cxb bd)) (valid_append) rfl (isFn_ghost tb T 23 (by kernel_rfl) rfl rfl rfl rfl)
    have f_numbers : ∀ bd, ValidF (Cx.mk Challenge.rw_uf040040_13.row.prog w (hideAll s₁.heap [P]) mg mb bd) 125 ("_law_numbers" : Str) numbersT := fun bd => v_numbers (X := (Cx.mk Challenge.rw_uf040040_13.row.prog w (hideAll s₁.heap [P]) mg mb bd)) (k := 124) (fam := (["BidError", "BadPrice", "BadPieces", "Uneven"] : List Str)) (cx bd) (by decide) (cxb bd _ (.tail _ (.tail _ (.tail _ (.tail _ (.tail _ (.tail _ (.tail _ (.tail _ (.tail _ (.tail _ (.tail _ (.tail _ (.tail _ (.tail _ (.head _)))))))))))))))) (valid_isi (cxb bd)) (valid_len (cxb bd)) ((f_whole bd).mono (by decide)) (⟨_, cxb bd _ (.tail _ (.tail _ (.tail _ (.tail _ (.tail _ (.tail _ (.tail _ (.tail _ (.head _)))))))))⟩) rfl (isFn_ghost tb T 24 (by kernel_rfl) rfl rfl rfl rfl)
    have f_gained : ∀ bd, ValidF (Cx.mk Challenge.rw_uf040040_13.row.prog w (hideAll s₁.heap [P]) mg mb bd) 126 ("_law_gained" : Str) gainedT := fun bd => v_gained (X := (Cx.mk Challenge.rw_uf040040_13.row.prog w (hideAll s₁.heap [P]) mg mb bd)) (k := 125) (fam := (["BidError", "BadPrice", "BadPieces", "Uneven"] : List Str)) (cx bd) (by decide) (cxb bd _ (.tail _ (.tail _ (.tail _ (.tail _ (.tail _ (.tail _ (.tail _ (.tail _ (.tail _ (.tail _ (.tail _ (.tail _ (.tail _ (.tail _ (.head _)))))))))))))))) (valid_range (cxb bd)) (valid_len (cxb bd)) rfl (isFn_ghost tb T 25 (by kernel_rfl) rfl rfl rfl rfl)
    have f_best : ∀ bd, ValidF (Cx.mk Challenge.rw_uf040040_13.row.prog w (hideAll s₁.heap [P]) mg mb bd) 127 ("_law_best_with_room" : Str) bestT := fun bd => v_best (X := (Cx.mk Challenge.rw_uf040040_13.row.prog w (hideAll s₁.heap [P]) mg mb bd)) (k := 126) (fam := (["BidError", "BadPrice", "BadPieces", "Uneven"] : List Str)) (cx bd) (by decide) (cxb bd _ (.tail _ (.tail _ (.tail _ (.tail _ (.tail _ (.tail _ (.tail _ (.tail _ (.tail _ (.tail _ (.tail _ (.tail _ (.tail _ (.tail _ (.head _)))))))))))))))) (valid_range (cxb bd)) (valid_len (cxb bd)) rfl (isFn_ghost tb T 26 (by kernel_rfl) rfl rfl rfl rfl)
    have f_more : ∀ bd, ValidF (Cx.mk Challenge.rw_uf040040_13.row.prog w (hideAll s₁.heap [P]) mg mb bd) 128 ("_law_one_more" : Str) moreT := fun bd => v_more (X := (Cx.mk Challenge.rw_uf040040_13.row.prog w (hideAll s₁.heap [P]) mg mb bd)) (k := 127) (fam := (["BidError", "BadPrice", "BadPieces", "Uneven"] : List Str)) (cx bd) (by decide) (cxb bd _ (.tail _ (.tail _ (.tail _ (.tail _ (.tail _ (.tail _ (.tail _ (.tail _ (.tail _ (.tail _ (.tail _ (.tail _ (.tail _ (.tail _ (.head _)))))))))))))))) ((f_best bd).mono (by decide)) (valid_list (cxb bd)) rfl (isFn_ghost tb T 27 (by kernel_rfl) rfl rfl rfl rfl)
    have f_shifted : ∀ bd, ValidF (Cx.mk Challenge.rw_uf040040_13.row.prog w (hideAll s₁.heap [P]) mg mb bd) 129 ("_law_shifted" : Str) shiftedT := fun bd => v_shifted (X := (Cx.mk Challenge.rw_uf040040_13.row.prog w (hideAll s₁.heap [P]) mg mb bd)) (k := 128) (fam := (["BidError", "BadPrice", "BadPieces", "Uneven"] : List Str)) (cx bd) (by decide) (cxb bd _ (.tail _ (.tail _ (.tail _ (.tail _ (.tail _ (.tail _ (.tail _ (.tail _ (.tail _ (.tail _ (.tail _ (.tail _ (.tail _ (.tail _ (.head _)))))))))))))))) (valid_list (cxb bd)) (valid_len (cxb bd)) (valid_min (by decide) (cxb bd)) rfl (isFn_ghost tb T 28 (by kernel_rfl) rfl rfl rfl rfl)
    have f_pgood : ∀ bd, ValidF (Cx.mk Challenge.rw_uf040040_13.row.prog w (hideAll s₁.heap [P]) mg mb bd) 130 ("_law_pairs_good" : Str) pgoodT := fun bd => v_pgood (X := (Cx.mk Challenge.rw_uf040040_13.row.prog w (hideAll s₁.heap [P]) mg mb bd)) (k := 129) (fam := (["BidError", "BadPrice", "BadPieces", "Uneven"] : List Str)) (cx bd) (by decide) (cxb bd _ (.tail _ (.tail _ (.tail _ (.tail _ (.tail _ (.tail _ (.tail _ (.tail _ (.tail _ (.tail _ (.tail _ (.tail _ (.tail _ (.tail _ (.head _)))))))))))))))) (valid_isi (cxb bd)) (valid_list (cxb bd)) (valid_len (cxb bd)) ((f_numbers bd).mono (by decide)) (⟨_, cxb bd _ (.tail _ (.tail _ (.tail _ (.tail _ (.tail _ (.tail _ (.tail _ (.tail _ (.head _)))))))))⟩) (⟨_, cxb bd _ (.tail _ (.tail _ (.tail _ (.tail _ (.tail _ (.tail _ (.tail _ (.tail _ (.tail _ (.tail _ (.tail _ (.tail _ (.tail _ (.head _))))))))))))))⟩) rfl (isFn_ghost tb T 29 (by kernel_rfl) rfl rfl rfl rfl)
    have f_goalL : ∀ bd, ValidF (Cx.mk Challenge.rw_uf040040_13.row.prog w (hideAll s₁.heap [P]) mg mb bd) 131 ("law" : Str) (goalLT P) := fun bd => v_goalL (X := (Cx.mk Challenge.rw_uf040040_13.row.prog w (hideAll s₁.heap [P]) mg mb bd)) (k := 130) (fam := (["BidError", "BadPrice", "BadPieces", "Uneven"] : List Str)) (cx bd) (by decide) (cxb bd _ (.tail _ (.tail _ (.tail _ (.tail _ (.tail _ (.tail _ (.tail _ (.tail _ (.tail _ (.tail _ (.tail _ (.tail _ (.tail _ (.tail _ (.head _)))))))))))))))) ((f_wishes_by bd).mono (by decide)) ((f_price_by bd).mono (by decide)) ((f_cell_at bd).mono (by decide)) ((f_evened bd).mono (by decide)) ((f_pieces_by bd).mono (by decide)) (valid_list (cxb bd)) ((f_pby bd).mono (by decide)) ((f_whole bd).mono (by decide)) ((f_pieces_at bd).mono (by decide)) ((f_numbers bd).mono (by decide)) (valid_len (cxb bd)) (valid_range (cxb bd)) ((f_lside bd).mono (by decide)) ((f_more bd).mono (by decide)) ((f_shifted bd).mono (by decide)) ((f_gained bd).mono (by decide)) ((f_worth bd).mono (by decide)) ((f_pairs bd).mono (by decide)) ((f_pgood bd).mono (by decide)) rfl (isFn_ghost tb T 30 (by kernel_rfl) rfl rfl rfl rfl)
    exact f_goalL (fun _ => False)
  · intro h' tk hk
    exact ⟨.inl ⟨_, .bool true, [], rfl, fun _ => rfl, .bool _, (by first | kernel_rfl | (with_unfolding_all rfl)), fun _ => ⟨List.nodup_nil, fun a ha => by cases ha⟩⟩, hk, rfl, .of_eq hg⟩
theorem PySem.Challenge.cw_uf040040_13_holds : PySem.Challenge.rw_uf040040_13.Holds :=
  Mine.hd
