import PyProof.Rows.All
import Wide.All
import Open.Line
import OpenK.KMore
import OpenK.KMake
import Wide.FinOn
import PyProof.ExcAttrAll.ValueError
import PySem.Challenge.RW_uf030024_01
set_option Elab.async false
set_option linter.unusedVariables false
namespace Mine
open PySem PySem.Calls

inductive V where
  | none
  | bool (b : Bool)
  | int (i : Int)
  | str (s : Str)
  | tup (vs : List V)
  | ref (a : Addr)
  | typ (n : String)
  | bif (n : String)
  | glb (n : Str)
  | scr

inductive Cell where
  | list (vs : List V)
  | dict (kvs : List (V × V))
  | exc (cls : Str)

/-- what stands outside: the globals, and the script -/
structure Gl where
  mg : Str → Option Value
  scr : Addr
  ns : List Int

abbrev Store := Addr → Option Cell
abbrev Loc := Str → Option V

def Store.set (σ : Store) (a : Addr) (c : Cell) : Store := fun b => if b = a then some c else σ b
def Loc.set (ρ : Loc) (x : Str) (v : V) : Loc := fun y => if y = x then some v else ρ y

theorem Store.set_same (σ : Store) (a : Addr) (c : Cell) : σ.set a c a = some c := if_pos rfl
theorem Store.set_ne {σ : Store} {a b : Addr} {c : Cell} (h : b ≠ a) : σ.set a c b = σ b := if_neg h
theorem Store.set_isSome {σ : Store} {a b : Addr} {c : Cell} (h : (σ.set a c b).isSome = true) : b = a ∨ (σ b).isSome = true := by
  unfold Store.set at h; split at h
  · exact .inl ‹_›
  · exact .inr h
theorem Store.set_none {σ : Store} {a b : Addr} {c : Cell} (h : σ.set a c b = none) : b ≠ a ∧ σ b = none := by
  unfold Store.set at h; split at h
  · cases h
  · exact ⟨‹_›, h⟩

def IsTupO (o : Obj) (xs : Array Value) : Prop := o.cls = .type "tuple" ∧ ∃ n, o.data = .seq xs n

mutual
def Rel (G : Gl) (h : Heap) : V → Value → Prop
  | .none, v => v = .none
  | .bool b, v => v = .bool b
  | .int i, v => ∃ t, v = .int i t
  | .str x, v => ∃ t, v = .str x t
  | .tup vs, v => ∃ a o xs, v = .ref a ∧ h.get? a = some o ∧ IsTupO o xs ∧ RelL G h vs xs.toList
  | .ref a, v => v = .ref a
  | .typ n, v => v = .type n
  | .bif n, v => v = .builtin n
  | .glb n, v => G.mg n = some v
  | .scr, v => v = .ref G.scr
def RelL (G : Gl) (h : Heap) : List V → List Value → Prop
  | [], l => l = []
  | x :: xs, l => ∃ v vs, l = v :: vs ∧ Rel G h x v ∧ RelL G h xs vs
end

def RelP (G : Gl) (h : Heap) : List (V × V) → List DictEntry → Prop
  | [], l => l = []
  | x :: xs, l => ∃ e es, l = e :: es ∧ Rel G h x.1 e.key ∧ Rel G h x.2 e.val ∧ RelP G h xs es

/-- tuples stay -/
def TupO (o : Obj) : Prop := o.cls = .type "tuple" ∧ ∃ xs n, o.data = .seq xs n
def TK (h h' : Heap) : Prop := ∀ b o, h.get? b = some o → TupO o → h'.get? b = some o

theorem TK.refl (h : Heap) : TK h h := fun _ _ e _ => e
theorem TK.trans {a b c : Heap} (x : TK a b) (y : TK b c) : TK a c := fun p o e t => y p o (x p o e t) t
theorem TK.of_keep {h h' : Heap} (k : ∀ b o, h.get? b = some o → h'.get? b = some o) : TK h h' := fun b o e _ => k b o e
theorem TK.push (h : Heap) (o : Obj) : TK h (h.push o) := fun _ _ e _ => Heap.get?_push_of_some o e
theorem TK.sameBut {h h' : Heap} {a : Addr} {oa : Obj} (s : Heap.SameBut a h h') (ho : h.get? a = some oa) (hc : ¬ TupO oa) : TK h h' := fun b o e t =>
  (s.2 b fun q => by subst q; rw [ho] at e; cases e; exact hc t).trans e

mutual
theorem Rel.mono {G : Gl} {h h' : Heap} (k : TK h h') : ∀ {x : V} {v : Value}, Rel G h x v → Rel G h' x v
  | .none, _, r => by simpa [Rel] using r
  | .bool b, _, r => by simpa [Rel] using r
  | .int b, _, r => by simpa [Rel] using r
  | .str b, _, r => by simpa [Rel] using r
  | .ref b, _, r => by simpa [Rel] using r
  | .typ b, _, r => by simpa [Rel] using r
  | .bif b, _, r => by simpa [Rel] using r
  | .glb b, _, r => by simpa [Rel] using r
  | .scr, _, r => by simpa [Rel] using r
  | .tup vs, _, r => by
    unfold Rel at r ⊢
    obtain ⟨a, o, xs, e, ho, ht, hr⟩ := r
    exact ⟨a, o, xs, e, k a o ho ⟨ht.1, xs, ht.2⟩, ht, RelL.mono k hr⟩
theorem RelL.mono {G : Gl} {h h' : Heap} (k : TK h h') : ∀ {xs : List V} {vs : List Value}, RelL G h xs vs → RelL G h' xs vs
  | [], _, r => by simpa [RelL] using r
  | x :: xs, _, r => by
    unfold RelL at r ⊢
    obtain ⟨v, vs, e, h1, h2⟩ := r
    exact ⟨v, vs, e, Rel.mono k h1, RelL.mono k h2⟩
end
theorem RelP.mono {G : Gl} {h h' : Heap} (k : TK h h') : ∀ {xs : List (V × V)} {vs : List DictEntry}, RelP G h xs vs → RelP G h' xs vs
  | [], _, r => r
  | x :: xs, _, ⟨v, vs, e, h1, h2, h3⟩ => ⟨v, vs, e, h1.mono k, h2.mono k, RelP.mono k h3⟩

theorem RelL.length {G : Gl} {h : Heap} : ∀ {xs : List V} {vs : List Value}, RelL G h xs vs → vs.length = xs.length
  | [], _, r => by unfold RelL at r; subst r; rfl
  | x :: xs, _, r => by
    unfold RelL at r
    obtain ⟨v, vs, rfl, _, h2⟩ := r
    simp [RelL.length h2]
theorem RelL.get {G : Gl} {h : Heap} : ∀ {xs : List V} {vs : List Value}, RelL G h xs vs → ∀ {i : Nat} {x : V}, xs[i]? = some x → ∃ v, vs[i]? = some v ∧ Rel G h x v
  | [], _, _, i, x, e => by simp at e
  | x :: xs, _, r, i, y, e => by
    unfold RelL at r
    obtain ⟨v, vs, rfl, h1, h2⟩ := r
    cases i with
    | zero => simp at e; subst e; exact ⟨v, by simp, h1⟩
    | succ i => simp at e; obtain ⟨w, hw, hr⟩ := RelL.get h2 e; exact ⟨w, by simpa using hw, hr⟩
theorem RelL.get' {G : Gl} {h : Heap} : ∀ {xs : List V} {vs : List Value}, RelL G h xs vs → ∀ {i : Nat} {v : Value}, vs[i]? = some v → ∃ x, xs[i]? = some x ∧ Rel G h x v
  | [], _, r, i, x, e => by unfold RelL at r; subst r; simp at e
  | x :: xs, _, r, i, y, e => by
    unfold RelL at r
    obtain ⟨v, vs, rfl, h1, h2⟩ := r
    cases i with
    | zero => simp at e; subst e; exact ⟨x, by simp, h1⟩
    | succ i => simp at e; obtain ⟨w, hw, hr⟩ := RelL.get' h2 e; exact ⟨w, by simpa using hw, hr⟩
theorem RelL.append {G : Gl} {h : Heap} : ∀ {xs : List V} {vs : List Value} {ys : List V} {ws : List Value}, RelL G h xs vs → RelL G h ys ws → RelL G h (xs ++ ys) (vs ++ ws)
  | [], _, ys, ws, r, r' => by unfold RelL at r; subst r; exact r'
  | x :: xs, _, ys, ws, r, r' => by
    unfold RelL at r
    obtain ⟨v, vs, rfl, h1, h2⟩ := r
    show RelL G h (x :: (xs ++ ys)) (v :: (vs ++ ws))
    unfold RelL
    exact ⟨v, _, rfl, h1, RelL.append h2 r'⟩
theorem RelL.nil {G : Gl} {h : Heap} : RelL G h [] [] := by unfold RelL; rfl
theorem RelL.cons {G : Gl} {h : Heap} {x : V} {v : Value} {xs : List V} {vs : List Value} (h1 : Rel G h x v) (h2 : RelL G h xs vs) : RelL G h (x :: xs) (v :: vs) := by unfold RelL; exact ⟨v, vs, rfl, h1, h2⟩
theorem RelL.of_map {G : Gl} {h : Heap} {α : Type} {f : α → V} {g : α → Value} : ∀ {l : List α}, (∀ x ∈ l, Rel G h (f x) (g x)) → RelL G h (l.map f) (l.map g)
  | [], _ => RelL.nil
  | x :: l, k => RelL.cons (k x (.head _)) (RelL.of_map fun y hy => k y (.tail _ hy))
theorem RelL.take {G : Gl} {h : Heap} : ∀ {xs : List V} {vs : List Value} (n : Nat), RelL G h xs vs → RelL G h (xs.take n) (vs.take n)
  | [], _, n, r => by unfold RelL at r; subst r; simp [RelL.nil]
  | x :: xs, _, 0, r => by simp [RelL.nil]
  | x :: xs, _, n + 1, r => by
    unfold RelL at r
    obtain ⟨v, vs, rfl, h1, h2⟩ := r
    exact RelL.cons h1 (RelL.take n h2)
theorem RelL.drop {G : Gl} {h : Heap} : ∀ {xs : List V} {vs : List Value} (n : Nat), RelL G h xs vs → RelL G h (xs.drop n) (vs.drop n)
  | xs, vs, 0, r => r
  | [], _, n + 1, r => by unfold RelL at r; subst r; simp [RelL.nil]
  | x :: xs, _, n + 1, r => by
    unfold RelL at r
    obtain ⟨v, vs, rfl, h1, h2⟩ := r
    exact RelL.drop n h2
theorem RelL.reverse {G : Gl} {h : Heap} : ∀ {xs : List V} {vs : List Value}, RelL G h xs vs → RelL G h xs.reverse vs.reverse
  | [], _, r => by unfold RelL at r; subst r; exact RelL.nil
  | x :: xs, _, r => by
    unfold RelL at r
    obtain ⟨v, vs, rfl, h1, h2⟩ := r
    rw [List.reverse_cons, List.reverse_cons]
    exact RelL.append (RelL.reverse h2) (RelL.cons h1 RelL.nil)

end Mine

set_option linter.unusedVariables false
set_option autoImplicit false
namespace Mine
open PySem PySem.Calls PyProof.Rows

/-! keys -/
abbrev Atom := Sum Int Str
def Atom.is : Atom → Value → Bool
  | .inl i, v => v.isInt i
  | .inr x, v => Value.isStrOf x v
def Atom.hash (w : World) : Atom → Int
  | .inl i => hashInt i
  | .inr x => hashStr w x

theorem Atom.shape {k : Atom} {v : Value} (h : Atom.is k v = true) : (∃ i t, k = .inl i ∧ v = .int i t) ∨ (∃ x t, k = .inr x ∧ v = .str x t) := by
  cases k with
  | inl i => obtain ⟨t, rfl⟩ := Value.isInt_shape h; exact .inl ⟨i, t, rfl, rfl⟩
  | inr x => obtain ⟨t, rfl⟩ := Value.isStrOf_shape h; exact .inr ⟨x, t, rfl, rfl⟩

def toAtom : V → Option Atom
  | .int i => some (.inl i)
  | .str x => some (.inr x)
  | _ => none
def toAtoms : List V → Option (List Atom)
  | [] => some []
  | x :: xs => match toAtom x, toAtoms xs with
    | some a, some l => some (a :: l)
    | _, _ => none
/-- the hash of a key -/
def hashV (w : World) : V → Int
  | .int i => hashInt i
  | .str x => hashStr w x
  | .tup vs => match toAtoms vs with
    | some l => reduceHash (Builtin.Tuple.tupleHashOf (l.map (Atom.hash w)))
    | none => 0
  | _ => 0

/-! the context of a law -/
structure Cx where
  prog : Program
  w : World
  s0 : Shared
  G : Gl
  mb : Str → Option Value
  ge : Str → Option V
abbrev Cx.M (C : Cx) : Model := model C.prog C.w

/-- the exceptions of the text: what raising and catching one means -/
structure ExcOk (C : Cx) : Prop where
  bad : ∃ cb B newId initId bm, ExcBaseFacts B newId initId bm ∧ OwnCls "BadWord" cb bm newId C.G.mg C.s0.heap
  glue : ∃ cg, C.G.mg "GlueError" = some (.ref cg) ∧ ∀ (A : Around) (s : Shared) (e : Addr) (oe : Obj) (cb : Value) (Q : Bool → Shared → Prop) (E : Value → Shared → Prop), (∀ b o, C.s0.heap.get? b = some o → s.heap.get? b = some o) →
    s.heap.get? e = some oe → C.G.mg "BadWord" = some cb → oe.cls = cb → Q true s → wpAny (model C.prog C.w) A (excMatches (.ref e) (.ref cg)) Q E s
  is : ∀ (x : Str) (c : Value) (r : Bool), ((x = "BadWord" ∧ C.G.mg x = some c ∧ r = true) ∨ (c = .type "ValueError" ∧ r = true) ∨ (x = "BadWeb" ∧ C.G.mg x = some c ∧ r = false)) →
    ∀ (A : Around) (s : Shared) (e : Addr) (oe : Obj) (cb : Value) (Q : Value → Shared → Prop) (E : Value → Shared → Prop), (∀ b o, C.s0.heap.get? b = some o → s.heap.get? b = some o) →
    s.heap.get? e = some oe → C.G.mg "BadWord" = some cb → oe.cls = cb → (∃ vs, oe.data = .fields vs) → (∀ t, Q (.bool r) { s with toks := t }) → wpAny (model C.prog C.w) A (call (.builtin "isinstance") [.ref e, c]) Q E s

structure CxOk (C : Cx) : Prop where
  exc : ExcOk C
  g : C.s0.heap.Ns mainGlobals C.G.mg
  b : C.s0.heap.Ns builtinsNs C.mb
  nolimit : C.s0.heap.NoLimit
  scr : ∃ items, C.s0.heap.IsList C.G.scr items ∧ RelL C.G C.s0.heap (C.G.ns.map V.int) items.toList
  scrLen : C.G.ns.length ≤ 63
  glob : ∀ x v, C.ge x = some v → (∃ u, C.G.mg x = some u ∧ ∀ h, Rel C.G h v u) ∨ (C.G.mg x = none ∧ ∃ u, C.mb x = some u ∧ ∀ h, Rel C.G h v u)

def CellRel (C : Cx) (h : Heap) (a : Addr) : Cell → Prop
  | .list vs => ∃ xs n, h.get? a = some { cls := .type "list", dict := none, data := .seq xs n, slots := #[] } ∧ RelL C.G h vs xs.toList
  | .dict kvs => ∃ o es n, h.get? a = some o ∧ o.ExactDict ∧ o.data = .dict es n ∧ RelP C.G h kvs es.toList ∧ (∀ i (hi : i < es.toList.length) k, (kvs.map (·.1))[i]? = some k → es.toList[i].hash = hashV C.w k) ∧ (kvs.map (·.1)).Nodup
  | .exc n => ∃ o vs c, h.get? a = some o ∧ C.G.mg n = some c ∧ o.cls = c ∧ o.data = .fields vs

theorem CellRel.at {C : Cx} {h h' : Heap} {a : Addr} {c : Cell} (r : CellRel C h a c) (k : TK h h') (e : ∀ o, h.get? a = some o → h'.get? a = some o) : CellRel C h' a c := by
  cases c with
  | list vs => obtain ⟨xs, n, h1, h4⟩ := r; exact ⟨xs, n, e _ h1, h4.mono k⟩
  | dict kvs => obtain ⟨o, xs, n, h1, h2, h3, h4, h5⟩ := r; exact ⟨o, xs, n, e o h1, h2, h3, h4.mono k, h5⟩
  | exc n => obtain ⟨o, vs, c, h1, h2, h3, h4⟩ := r; exact ⟨o, vs, c, e o h1, h2, h3, h4⟩

def frs (fs : List Env) : List Addr := fs.filterMap (·.frame)

/-- a frame at work: what is fixed while its statements run -/
structure Fm where
  A : Around
  fs : List Env
  env : Env
  own : List Addr
  he : Heap
  σe : Store

def Room (A : Around) (n : Nat) : Prop := A.depth + n < recursionLimit ∧ A.units + 10 * n + 40 < cLine

structure FmOk (C : Cx) (F : Fm) (n : Nat) : Prop where
  handled : F.A.handled = none
  frames : F.A.frames = some F.fs
  room : Room F.A n
  kind : F.env.scope.kind = .function
  globals : F.env.globals = mainGlobals
  builtins : F.env.builtins = builtinsNs
  inter : interactive F.env = false
  locOwn : F.env.locals ∈ F.own
  cellKind : ∀ x, F.env.kindOf x = some .cell → ∃ c, F.env.cells.lookup x = some c
  freeKind : ∀ x, F.env.kindOf x = some .free → ∃ c, F.env.cells.lookup x = some c
  cellInj : ∀ x y c, F.env.cells.lookup x = some c → F.env.cells.lookup y = some c → x = y
  cellApart : ∀ x c, F.env.cells.lookup x = some c → c ≠ F.env.locals ∧ c ∉ frs F.fs
  cellsKind : ∀ x c, F.env.cells.lookup x = some c → F.env.kindOf x = some .cell ∨ F.env.kindOf x = some .free
  noDbg : F.env.kindOf "__debug__" = none
  noCd : F.env.kindOf "__classdict__" = none

structure Inv (C : Cx) (F : Fm) (ρ : Loc) (σ : Store) (s : Shared) : Prop where
  same : ∃ h t, s = { C.s0 with heap := h, toks := t }
  keep0 : ∀ b o, C.s0.heap.get? b = some o → s.heap.get? b = some o
  frames : s.heap.FunFrames C.s0.heap F.fs
  frNs : ∀ b ∈ frs F.fs, ∃ m, s.heap.Ns b m
  loc : ∃ m, s.heap.Ns F.env.locals m ∧ ∀ x v, ρ x = some v → F.env.kindOf x = some .local → ∃ u, m x = some u ∧ Rel C.G s.heap v u
  cel : ∀ x c, F.env.cells.lookup x = some c → ∃ u, s.heap.IsCell c u ∧ ∀ v, ρ x = some v → (F.env.kindOf x = some .cell ∨ F.env.kindOf x = some .free) → ∃ u', u = some u' ∧ Rel C.G s.heap v u'
  sto : ∀ a c, σ a = some c → CellRel C s.heap a c ∧ C.s0.heap.get? a = none ∧ a ∉ F.own ∧ a ∉ frs F.fs ∧ (∀ x, F.env.cells.lookup x ≠ some a) ∧ a ≠ sysModules
  ownNew : ∀ b ∈ F.own, C.s0.heap.get? b = none ∧ F.he.get? b = none
  ownObj : ∀ b ∈ F.own, ∃ o, s.heap.get? b = some o ∧ ∀ xs n, o.data ≠ .seq xs n
  kept : ∀ b o, F.he.get? b = some o → F.σe b = none → b ∉ frs F.fs → s.heap.get? b = some o
  ns : ∀ b ∈ frs F.fs, b ∉ F.own → ∀ m, F.he.Ns b m → s.heap.Ns b m
  new : ∀ b, F.σe b = none → (σ b).isSome = true → F.he.get? b = none
  dom : ∀ b, (F.he.get? b).isSome = true → (s.heap.get? b).isSome = true
  lo : F.env.locals ∈ F.own
  st2 : (s.heap.get? cStatics).isSome = true

/-- one step of the frame -/
structure Stp (F : Fm) (σ σ' : Store) (h h' : Heap) : Prop where
  exact : ∀ b o, h.get? b = some o → σ b = none → b ∉ F.own → b ∉ frs F.fs → h'.get? b = some o
  tk : TK h h'
  new : ∀ b, σ b = none → (σ' b).isSome = true → h.get? b = none
  dom : ∀ b, (h.get? b).isSome = true → (h'.get? b).isSome = true

theorem Stp.refl (F : Fm) (σ : Store) (h : Heap) : Stp F σ σ h h := ⟨fun _ _ e _ _ _ => e, TK.refl h, fun b e e' => (by rw [e] at e'; cases e'), fun _ e => e⟩
theorem Stp.trans {F : Fm} {σ σ' σ'' : Store} {h h' h'' : Heap} (x : Stp F σ σ' h h') (y : Stp F σ' σ'' h' h'') : Stp F σ σ'' h h'' where
  exact := fun b o e hs ho hf => y.exact b o (x.exact b o e hs ho hf) (by
    cases q : σ' b with
    | none => rfl
    | some c => have := x.new b hs (by rw [q]; rfl); rw [e] at this; cases this) ho hf
  tk := x.tk.trans y.tk
  new := fun b hs hs'' => by
    cases q : σ' b with
    | none =>
      have h1 := y.new b q hs''
      cases r : h.get? b with
      | none => rfl
      | some o => have := x.dom b (by rw [r]; rfl); rw [h1] at this; cases this
    | some c => exact x.new b hs (by rw [q]; rfl)
  dom := fun b e => y.dom b (x.dom b e)
theorem Stp.drop {F : Fm} {σ σ' σ'' : Store} {h h' : Heap} (x : Stp F σ σ' h h') (d : ∀ a c, σ'' a = some c → σ' a = some c) : Stp F σ σ'' h h' where
  exact := x.exact
  tk := x.tk
  new := fun b hs hs'' => by
    cases q : σ'' b with
    | none => rw [q] at hs''; cases hs''
    | some c => exact x.new b hs (by rw [d b c q]; rfl)
  dom := x.dom

section
variable {C : Cx} {F : Fm} {ρ ρ' : Loc} {σ σ' : Store} {s : Shared} {h' : Heap} {a : Addr} {c c' : Cell} {t : Tok}

theorem Inv.drop (I : Inv C F ρ σ s) (d : ∀ a c, σ' a = some c → σ a = some c) : Inv C F ρ σ' s :=
  { I with
    sto := fun a c e => I.sto a c (d a c e)
    new := fun b e e' => by
      cases q : σ' b with
      | none => rw [q] at e'; cases e'
      | some c => exact I.new b e (by rw [d b c q]; rfl) }
theorem Inv.dropLoc (I : Inv C F ρ σ s) (d : ∀ a c, ρ' a = some c → ρ a = some c) : Inv C F ρ' σ s :=
  { I with
    loc := let ⟨m, hn, hr⟩ := I.loc; ⟨m, hn, fun x v e k => hr x v (d x v e) k⟩
    cel := fun x c e => let ⟨u, h1, h2⟩ := I.cel x c e; ⟨u, h1, fun v e k => h2 v (d x v e) k⟩ }

theorem Ns.notTup {h : Heap} {a : Addr} {m : Str → Option Value} (hn : h.Ns a m) : ∃ o, h.get? a = some o ∧ ∀ xs n, o.data ≠ .seq xs n := by
  obtain ⟨o, es, ep, ho, hd, _⟩ := hn
  exact ⟨o, ho, fun xs n e => by rw [hd] at e; cases e⟩

theorem Inv.ext (I : Inv C F ρ σ s) (k : ∀ b o, s.heap.get? b = some o → h'.get? b = some o) : Inv C F ρ σ { s with heap := h', toks := t } where
  same := let ⟨h, t', e⟩ := I.same; ⟨h', t, by rw [e]⟩
  keep0 := fun b o e => k b o (I.keep0 b o e)
  frames := I.frames.of_keeps fun b o e _ => ⟨o, k b o e, rfl⟩
  frNs := fun b hb => let ⟨m, hm⟩ := I.frNs b hb; ⟨m, hm.keeps k⟩
  loc := let ⟨m, hn, hr⟩ := I.loc; ⟨m, hn.keeps k, fun x v e q => let ⟨u, h1, h2⟩ := hr x v e q; ⟨u, h1, h2.mono (TK.of_keep k)⟩⟩
  cel := fun x c e => let ⟨u, h1, h2⟩ := I.cel x c e; ⟨u, h1.keeps k, fun v e q => let ⟨u', h3, h4⟩ := h2 v e q; ⟨u', h3, h4.mono (TK.of_keep k)⟩⟩
  sto := fun a c e => let ⟨h1, h2⟩ := I.sto a c e; ⟨h1.at (TK.of_keep k) fun o q => k a o q, h2⟩
  ownNew := I.ownNew
  ownObj := fun b hb => let ⟨o, h1, h2⟩ := I.ownObj b hb; ⟨o, k b o h1, h2⟩
  kept := fun b o e h1 h2 => k b o (I.kept b o e h1 h2)
  ns := fun b hb ho m hm => (I.ns b hb ho m hm).keeps k
  new := I.new
  dom := fun b e => by
    have := I.dom b e
    cases q : s.heap.get? b with
    | none => rw [q] at this; cases this
    | some o => show (h'.get? b).isSome = true; rw [k b o q]; rfl
  lo := I.lo
  st2 := by
    have := I.st2
    cases q : s.heap.get? cStatics with
    | none => rw [q] at this; cases this
    | some o => show (h'.get? cStatics).isSome = true; rw [k _ o q]; rfl
theorem Stp.ext {h : Heap} (k : ∀ b o, h.get? b = some o → h'.get? b = some o) : Stp F σ σ h h' where
  exact := fun b o e _ _ _ => k b o e
  tk := TK.of_keep k
  new := fun b e e' => by rw [e] at e'; cases e'
  dom := fun b e => by
    cases q : h.get? b with
    | none => rw [q] at e; cases e
    | some o => rw [k b o q]; rfl

theorem CellRel.obj {C : Cx} {h : Heap} {a : Addr} {c : Cell} (r : CellRel C h a c) : ∃ o, h.get? a = some o ∧ ¬ TupO o := by
  cases c with
  | list vs => obtain ⟨xs, n, h1, _⟩ := r; exact ⟨_, h1, fun x => absurd x.1 (by show ¬ (Value.type "list" = Value.type "tuple"); decide)⟩
  | dict kvs => obtain ⟨o, xs, n, h1, h2, h3, _⟩ := r; exact ⟨o, h1, fun x => by obtain ⟨_, _, _, e⟩ := x; rw [h3] at e; cases e⟩
  | exc n => obtain ⟨o, vs, c, h1, h2, h3, h4⟩ := r; exact ⟨o, h1, fun x => by obtain ⟨_, _, _, e⟩ := x; rw [h4] at e; cases e⟩

/-- a cell is changed in place -/
theorem Inv.upd (I : Inv C F ρ σ s) (ha : σ a = some c) (hs : Heap.SameBut a s.heap h') (hd : (h'.get? a).isSome = true) (hc : TK s.heap h' → CellRel C h' a c') :
    Inv C F ρ (σ.set a c') { s with heap := h', toks := t } ∧ Stp F σ (σ.set a c') s.heap h' := by
  obtain ⟨r, n0, n1, n2, n3, n4⟩ := I.sto a c ha
  obtain ⟨oa, hoa, hnt⟩ := r.obj
  have tk : TK s.heap h' := TK.sameBut hs hoa hnt
  have kb : ∀ b o, b ≠ a → s.heap.get? b = some o → h'.get? b = some o := fun b o hb e => (hs.2 b hb).trans e
  have dm : ∀ b, (s.heap.get? b).isSome = true → (h'.get? b).isSome = true := fun b e => by
    by_cases q : b = a
    · subst q; exact hd
    · rw [hs.2 b q]; exact e
  refine ⟨?_, ?_⟩
  · exact
    { same := let ⟨h, t', e⟩ := I.same; ⟨h', t, by rw [e]⟩
      keep0 := fun b o e => kb b o (fun q => by rw [q, n0] at e; cases e) (I.keep0 b o e)
      frames := by
        have gen : ∀ (l : List Env), a ∉ frs l → s.heap.FunFrames C.s0.heap l → h'.FunFrames C.s0.heap l := by
          intro l
          induction l with
          | nil => intro _ _; trivial
          | cons env rest ih =>
            rintro hn ⟨hk, ⟨L, o, hf, hn', ho, hd⟩, hr⟩
            have hn2 : a ∉ L :: frs rest := by
              have : frs (env :: rest) = L :: frs rest := by simp [frs, hf]
              rw [this] at hn; exact hn
            exact ⟨hk, ⟨L, o, hf, hn', kb L o (fun q => hn2 (by rw [q]; exact .head _)) ho, hd⟩, ih (fun q => hn2 (.tail _ q)) hr⟩
        exact gen F.fs n2 I.frames
      frNs := fun b hb => let ⟨m, hm⟩ := I.frNs b hb; ⟨m, hm.sameBut hs fun q => n2 (q ▸ hb)⟩
      loc := by
        obtain ⟨m, hn, hr⟩ := I.loc
        refine ⟨m, ?_, fun x v e q => let ⟨u, h1, h2⟩ := hr x v e q; ⟨u, h1, h2.mono tk⟩⟩
        exact hn.sameBut hs fun q => n1 (q ▸ I.lo)
      cel := fun x c e => by
        obtain ⟨u, h1, h2⟩ := I.cel x c e
        exact ⟨u, h1.sameBut hs fun q => n3 x (by rw [e, q]), fun v e q => let ⟨u', h3, h4⟩ := h2 v e q; ⟨u', h3, h4.mono tk⟩⟩
      sto := fun b cb e => by
        by_cases q : b = a
        · subst q
          rw [Store.set_same] at e; cases e
          exact ⟨hc tk, n0, n1, n2, n3, n4⟩
        · rw [Store.set_ne q] at e
          obtain ⟨h1, h2⟩ := I.sto b cb e
          exact ⟨h1.at tk fun o e => kb b o q e, h2⟩
      ownNew := I.ownNew
      ownObj := fun b hb => let ⟨o, h1, h2⟩ := I.ownObj b hb; ⟨o, kb b o (fun q => n1 (q ▸ hb)) h1, h2⟩
      kept := fun b o e h1 h2 => kb b o (fun q => by
        subst q
        have := I.new b h1 (by rw [ha]; rfl)
        rw [this] at e; cases e) (I.kept b o e h1 h2)
      ns := fun b hb ho m hm => (I.ns b hb ho m hm).sameBut hs fun q => n2 (q ▸ hb)
      new := fun b e e' => by
        rcases Store.set_isSome e' with rfl | e'
        · exact I.new b e (by rw [ha]; rfl)
        · exact I.new b e e'
      dom := fun b e => dm b (I.dom b e)
      lo := I.lo
      st2 := dm _ I.st2 }
  · exact
    { exact := fun b o e h1 _ _ => kb b o (fun q => by rw [q, ha] at h1; cases h1) e
      tk := tk
      new := fun b e e' => by
        rcases Store.set_isSome e' with rfl | e'
        · rw [ha] at e; cases e
        · rw [e] at e'; cases e'
      dom := dm }

/-- a new cell -/
theorem Inv.newc (I : Inv C F ρ σ s) (k : ∀ b o, s.heap.get? b = some o → h'.get? b = some o) (hz : s.heap.objs.size ≤ a) (hc : CellRel C h' a c) :
    Inv C F ρ (σ.set a c) { s with heap := h', toks := t } ∧ Stp F σ (σ.set a c) s.heap h' ∧ σ a = none := by
  have hn : s.heap.get? a = none := by
    cases q : s.heap.get? a with
    | none => rfl
    | some o => exact absurd (Heap.lt_size q) (Nat.not_lt.mpr hz)
  have J : Inv C F ρ σ { s with heap := h', toks := t } := I.ext k
  have ha : σ a = none := by
    cases q : σ a with
    | none => rfl
    | some c' => obtain ⟨o, ho, _⟩ := (I.sto a c' q).1.obj; rw [hn] at ho; cases ho
  have nk : ∀ b o, s.heap.get? b = some o → b ≠ a := fun b o e q => by rw [q, hn] at e; cases e
  refine ⟨?_, ?_, ha⟩
  · exact
    { J with
      sto := fun b cb e => by
        by_cases q : b = a
        · subst q
          rw [Store.set_same] at e; cases e
          refine ⟨hc, ?_, ?_, ?_, ?_, ?_⟩
          · cases q : C.s0.heap.get? b with
            | none => rfl
            | some o => exact absurd rfl (nk b o (I.keep0 b o q))
          · intro hb; obtain ⟨o, ho, _⟩ := I.ownObj b hb; exact nk b o ho rfl
          · intro hb; obtain ⟨m, hm⟩ := I.frNs b hb; obtain ⟨o, ho, _⟩ := Ns.notTup hm; exact nk b o ho rfl
          · intro x hx; obtain ⟨u, ⟨o, ho, _⟩, _⟩ := I.cel x b hx; exact nk b o ho rfl
          · have h2 : cStatics < s.heap.objs.size := by
              have := I.st2
              cases q : s.heap.get? cStatics with
              | none => rw [q] at this; cases this
              | some o => exact Heap.lt_size q
            intro q
            have : (2 : Nat) < b := Nat.lt_of_lt_of_le h2 hz
            rw [q] at this
            exact absurd this (by decide)
        · rw [Store.set_ne q] at e
          exact J.sto b cb e
      new := fun b e e' => by
        rcases Store.set_isSome e' with rfl | e'
        · cases q : F.he.get? b with
          | none => rfl
          | some o => have := I.dom b (by rw [q]; rfl); rw [hn] at this; cases this
        · exact I.new b e e' }
  · exact
    { exact := fun b o e _ _ _ => k b o e
      tk := TK.of_keep k
      new := fun b e e' => by
        rcases Store.set_isSome e' with rfl | e'
        · exact hn
        · rw [e] at e'; cases e'
      dom := fun b e => by
        cases q : s.heap.get? b with
        | none => rw [q] at e; cases e
        | some o => rw [k b o q]; rfl }

theorem rel_lookup {x y : Str} {v v' : V} (e : ρ.set x v y = some v') : (y = x ∧ v' = v) ∨ (y ≠ x ∧ ρ y = some v') := by
  unfold Loc.set at e
  split at e
  · cases e; exact .inl ⟨‹_›, rfl⟩
  · exact .inr ⟨‹_›, e⟩

/-- a change at an own address that is no tuple's -/
theorem Inv.own_step (I : Inv C F ρ σ s) (ha : a ∈ F.own) (hs : Heap.SameBut a s.heap h') (hd : ∃ o, h'.get? a = some o ∧ ∀ xs n, o.data ≠ .seq xs n)
    (hfr : a ∈ frs F.fs → ∃ m, h'.Ns a m)
    (hloc : ∃ m, h'.Ns F.env.locals m ∧ ∀ x v, ρ' x = some v → F.env.kindOf x = some .local → ∃ u, m x = some u ∧ Rel C.G h' v u)
    (hcel : ∀ x c, F.env.cells.lookup x = some c → ∃ u, h'.IsCell c u ∧ ∀ v, ρ' x = some v → (F.env.kindOf x = some .cell ∨ F.env.kindOf x = some .free) → ∃ u', u = some u' ∧ Rel C.G h' v u') :
    Inv C F ρ' σ { s with heap := h', toks := t } ∧ Stp F σ σ s.heap h' := by
  obtain ⟨oa, hoa, hnt⟩ := I.ownObj a ha
  obtain ⟨n0, n1⟩ := I.ownNew a ha
  have tk : TK s.heap h' := TK.sameBut hs hoa fun x => by obtain ⟨_, xs, n, e⟩ := x; exact hnt xs n e
  have kb : ∀ b o, b ≠ a → s.heap.get? b = some o → h'.get? b = some o := fun b o hb e => (hs.2 b hb).trans e
  have dm : ∀ b, (s.heap.get? b).isSome = true → (h'.get? b).isSome = true := fun b e => by
    by_cases q : b = a
    · subst q; obtain ⟨o, ho, _⟩ := hd; rw [ho]; rfl
    · rw [hs.2 b q]; exact e
  have nsk : ∀ b m, b ≠ a → s.heap.Ns b m → h'.Ns b m := fun b m hb hm => hm.sameBut hs hb
  refine ⟨?_, ⟨fun b o e _ h1 _ => kb b o (fun q => h1 (q ▸ ha)) e, tk, fun b e e' => (by rw [e] at e'; cases e'), dm⟩⟩
  exact
    { same := let ⟨h, t', e⟩ := I.same; ⟨h', t, by rw [e]⟩
      keep0 := fun b o e => kb b o (fun q => by rw [q, n0] at e; cases e) (I.keep0 b o e)
      frames := by
        have gen : ∀ (l : List Env), (∀ b ∈ frs l, b = a → ∃ m, h'.Ns b m) → s.heap.FunFrames C.s0.heap l → h'.FunFrames C.s0.heap l := by
          intro l
          induction l with
          | nil => intro _ _; trivial
          | cons env rest ih =>
            rintro hn ⟨hk, ⟨L, o, hf, hn', ho, hd⟩, hr⟩
            have e : frs (env :: rest) = L :: frs rest := by simp [frs, hf]
            rw [e] at hn
            refine ⟨hk, ?_, ih (fun b hb => hn b (.tail _ hb)) hr⟩
            by_cases q : L = a
            · obtain ⟨m, o', es, ep, h1, h2, _⟩ := hn L (.head _) q
              exact ⟨L, o', hf, hn', h1, fun vs e => by rw [h2] at e; cases e⟩
            · exact ⟨L, o, hf, hn', kb L o q ho, hd⟩
        exact gen F.fs (fun b hb q => q ▸ hfr (q ▸ hb)) I.frames
      frNs := fun b hb => by
        by_cases q : b = a
        · subst q; exact hfr hb
        · obtain ⟨m, hm⟩ := I.frNs b hb; exact ⟨m, nsk b m q hm⟩
      loc := hloc
      cel := hcel
      sto := fun b cb e => by
        obtain ⟨h1, h2⟩ := I.sto b cb e
        exact ⟨h1.at tk fun o e => kb b o (fun q => h2.2.1 (q ▸ ha)) e, h2⟩
      ownNew := I.ownNew
      ownObj := fun b hb => by
        by_cases q : b = a
        · subst q; exact hd
        · obtain ⟨o, h1, h2⟩ := I.ownObj b hb; exact ⟨o, kb b o q h1, h2⟩
      kept := fun b o e h1 h2 => kb b o (fun q => by subst q; rw [n1] at e; cases e) (I.kept b o e h1 h2)
      ns := fun b hb ho m hm => nsk b m (fun q => ho (q ▸ ha)) (I.ns b hb ho m hm)
      new := I.new
      dom := fun b e => dm b (I.dom b e)
      lo := I.lo
      st2 := dm _ I.st2 }

theorem Inv.setLocal (I : Inv C F ρ σ s) {x : Str} {v : V} {u : Value} (hx : F.env.kindOf x = some .local) (hcl : ∀ c, F.env.cells.lookup x = some c → F.env.kindOf x ≠ some .local)
    (hr : Rel C.G s.heap v u) (hs : Heap.SameBut F.env.locals s.heap h') {m : Str → Option Value} (hm0 : s.heap.Ns F.env.locals m)
    (hmr : ∀ x v, ρ x = some v → F.env.kindOf x = some .local → ∃ u, m x = some u ∧ Rel C.G s.heap v u)
    (hm : h'.Ns F.env.locals (fun y => if y = x then some u else m y)) (hapart : ∀ y c, F.env.cells.lookup y = some c → c ≠ F.env.locals) :
    Inv C F (ρ.set x v) σ { s with heap := h', toks := t } ∧ Stp F σ σ s.heap h' := by
  obtain ⟨oL, hoL, hnt⟩ := Ns.notTup hm0
  have tk : TK s.heap h' := TK.sameBut hs hoL fun y => by obtain ⟨_, xs, n, e⟩ := y; exact hnt xs n e
  refine I.own_step I.lo hs (Ns.notTup hm) (fun _ => ⟨_, hm⟩) ⟨_, hm, fun y w e k => ?_⟩ fun y c e => ?_
  · rcases rel_lookup e with ⟨rfl, rfl⟩ | ⟨hne, e⟩
    · exact ⟨u, if_pos rfl, hr.mono tk⟩
    · obtain ⟨u', h1, h2⟩ := hmr y w e k
      exact ⟨u', by show (if y = x then some u else m y) = some u'; rw [if_neg hne]; exact h1, h2.mono tk⟩
  · obtain ⟨u', h1, h2⟩ := I.cel y c e
    refine ⟨u', h1.sameBut hs (hapart y c e), fun w e' k => ?_⟩
    rcases rel_lookup e' with ⟨rfl, rfl⟩ | ⟨hne, e'⟩
    · rw [hx] at k; rcases k with k | k <;> cases k
    · obtain ⟨u'', h3, h4⟩ := h2 w e' k; exact ⟨u'', h3, h4.mono tk⟩

theorem Inv.setCell (I : Inv C F ρ σ s) {x : Str} {v : V} {u : Value} {cx : Addr} (hx : F.env.kindOf x = some .cell) (hcx : F.env.cells.lookup x = some cx) (hown : cx ∈ F.own)
    (hinj : ∀ x y c, F.env.cells.lookup x = some c → F.env.cells.lookup y = some c → x = y) (hnf : cx ∉ frs F.fs) (hnl : cx ≠ F.env.locals)
    (hr : Rel C.G s.heap v u) (hs : Heap.SameBut cx s.heap h') (hc : h'.IsCell cx (some u)) :
    Inv C F (ρ.set x v) σ { s with heap := h', toks := t } ∧ Stp F σ σ s.heap h' := by
  obtain ⟨u0, ⟨o0, ho0, hd0⟩, _⟩ := I.cel x cx hcx
  have tk : TK s.heap h' := TK.sameBut hs ho0 fun y => by obtain ⟨_, xs, n, e⟩ := y; rw [hd0] at e; cases e
  refine I.own_step hown hs (let ⟨o, h1, h2⟩ := hc; ⟨o, h1, fun xs n e => by rw [h2] at e; cases e⟩) (fun q => absurd q hnf) ?_ fun y c e => ?_
  · obtain ⟨m, hm, hmr⟩ := I.loc
    refine ⟨m, hm.sameBut hs (Ne.symm hnl), fun y w e k => ?_⟩
    rcases rel_lookup e with ⟨rfl, rfl⟩ | ⟨hne, e⟩
    · rw [hx] at k; cases k
    · obtain ⟨u', h1, h2⟩ := hmr y w e k; exact ⟨u', h1, h2.mono tk⟩
  · by_cases q : y = x
    · subst q
      rw [hcx] at e; cases e
      refine ⟨some u, hc, fun w e' k => ⟨u, rfl, ?_⟩⟩
      rcases rel_lookup e' with ⟨_, rfl⟩ | ⟨hne, _⟩
      · exact hr.mono tk
      · exact absurd rfl hne
    · obtain ⟨u', h1, h2⟩ := I.cel y c e
      refine ⟨u', h1.sameBut hs (fun z => q (hinj y x c e (by rw [hcx, z]))), fun w e' k => ?_⟩
      rcases rel_lookup e' with ⟨rfl, rfl⟩ | ⟨hne, e'⟩
      · exact absurd rfl q
      · obtain ⟨u'', h3, h4⟩ := h2 w e' k; exact ⟨u'', h3, h4.mono tk⟩
end
end Mine

set_option linter.unusedVariables false
set_option autoImplicit false
namespace Mine
open PySem PySem.Calls PyProof.Rows

abbrev QV := V → Store → Prop
abbrev XP := Store → Prop

def Ok (C : Cx) (F : Fm) (ρ : Loc) (σ : Store) (s : Shared) (Q : QV) (v : Value) (s' : Shared) : Prop :=
  ∃ x σ', Inv C F ρ σ' s' ∧ Stp F σ σ' s.heap s'.heap ∧ Rel C.G s'.heap x v ∧ Q x σ'

section
variable {C : Cx} {F : Fm} {ρ : Loc} {σ : Store} {s s' : Shared} {Q : QV} {v : Value} {x : V} {n : Nat} {E : Value → Shared → Prop}

theorem Ok.tok (I : Inv C F ρ σ s) {t : Tok} (r : Rel C.G s.heap x v) (h : Q x σ) : Ok C F ρ σ s Q v { s with toks := t } :=
  ⟨x, σ, I.ext fun _ _ e => e, Stp.refl _ _ _, r, h⟩
theorem Ok.here (I : Inv C F ρ σ s) (r : Rel C.G s.heap x v) (h : Q x σ) : Ok C F ρ σ s Q v s := ⟨x, σ, I, Stp.refl _ _ _, r, h⟩
theorem Ok.ext (I : Inv C F ρ σ s) {t : Tok} {h' : Heap} (k : ∀ b o, s.heap.get? b = some o → h'.get? b = some o) (r : Rel C.G h' x v) (h : Q x σ) : Ok C F ρ σ s Q v { s with heap := h', toks := t } :=
  ⟨x, σ, I.ext k, Stp.ext k, r, h⟩
theorem Ok.newc (I : Inv C F ρ σ s) {t : Tok} {h' : Heap} {a : Addr} {c : Cell} (k : ∀ b o, s.heap.get? b = some o → h'.get? b = some o) (hz : s.heap.objs.size ≤ a) (hc : CellRel C h' a c)
    (h : σ a = none → Q (.ref a) (σ.set a c)) : Ok C F ρ σ s Q (.ref a) { s with heap := h', toks := t } :=
  let ⟨J, S, e⟩ := I.newc (t := t) k hz hc
  ⟨.ref a, _, J, S, by simp [Rel], h e⟩
theorem Ok.upd (I : Inv C F ρ σ s) {t : Tok} {h' : Heap} {a : Addr} {c c' : Cell} (ha : σ a = some c) (hs : Heap.SameBut a s.heap h') (hc : TK s.heap h' → CellRel C h' a c')
    (hd : (h'.get? a).isSome = true) (r : TK s.heap h' → Rel C.G h' x v) (h : Q x (σ.set a c')) : Ok C F ρ σ s Q v { s with heap := h', toks := t } :=
  let ⟨J, S⟩ := I.upd (t := t) ha hs hd hc
  ⟨x, _, J, S, r S.tk, h⟩
theorem Ok.trans {σ₁ : Store} {s₁ : Shared} (st : Stp F σ σ₁ s.heap s₁.heap) (h : Ok C F ρ σ₁ s₁ Q v s') : Ok C F ρ σ s Q v s' :=
  let ⟨x, σ', I, S, r, q⟩ := h; ⟨x, σ', I, st.trans S, r, q⟩
theorem Ok.mono {Q' : QV} (h : Ok C F ρ σ s Q v s') (k : ∀ x σ, Q x σ → Q' x σ) : Ok C F ρ σ s Q' v s' :=
  let ⟨x, σ', I, S, r, q⟩ := h; ⟨x, σ', I, S, r, k _ _ q⟩

/-! operators -/
def binS (op : Operator) (a b : V) (σ : Store) (Q : QV) : Prop := match op, a, b with
  | .Add, .int i, .int j => Q (.int (i + j)) σ
  | .Sub, .int i, .int j => Q (.int (i - j)) σ
  | .Mult, .int i, .int j => IntMulOk i j ∧ Q (.int (i * j)) σ
  | .FloorDiv, .int i, .int j => j ≠ 0 ∧ j.natAbs < 1073741824 ∧ Q (.int (i.fdiv j)) σ
  | .Mod, .int i, .int j => j ≠ 0 ∧ Q (.int (i.fmod j)) σ
  | .Add, .str x, .str y => x.length + y.length ≤ sizeLine ∧ Q (.str (x ++ y)) σ
  | _, _, _ => False

theorem binS_ok {op : Operator} {a b : V} {va vb : Value} (I : Inv C F ρ σ s) (ra : Rel C.G s.heap a va) (rb : Rel C.G s.heap b vb) (h : binS op a b σ Q) :
    wpAny C.M F.A (binaryOp op va vb) (Ok C F ρ σ s Q) E s := by
  unfold binS at h
  split at h
  · simp only [Rel] at ra rb; obtain ⟨t, rfl⟩ := ra; obtain ⟨u, rfl⟩ := rb
    exact P.add_int (Ok.tok I (by simp [Rel]) h)
  · simp only [Rel] at ra rb; obtain ⟨t, rfl⟩ := ra; obtain ⟨u, rfl⟩ := rb
    exact P.sub_int (Ok.tok I (by simp [Rel]) h)
  · simp only [Rel] at ra rb; obtain ⟨t, rfl⟩ := ra; obtain ⟨u, rfl⟩ := rb
    exact P.mul_int (Ok.tok I (by simp [Rel]) h.2) h.1
  · simp only [Rel] at ra rb; obtain ⟨t, rfl⟩ := ra; obtain ⟨u, rfl⟩ := rb
    exact floordiv_int h.1 (Ok.tok I (by simp [Rel]) h.2.2) (.inl (PyProof.noPylong_small h.2.1))
  · simp only [Rel] at ra rb; obtain ⟨t, rfl⟩ := ra; obtain ⟨u, rfl⟩ := rb
    exact mod_int' h.1 (Ok.tok I (by simp [Rel]) h.2)
  · simp only [Rel] at ra rb; obtain ⟨t, rfl⟩ := ra; obtain ⟨u, rfl⟩ := rb
    exact PyProof.Rows.add_str (fun _ _ => Ok.tok I (by simp [Rel]) h.2) h.1
  · exact h.elim
end
end Mine

set_option linter.unusedVariables false
set_option autoImplicit false
namespace Mine
open PySem PySem.Calls PyProof.Rows PySem.SeqAt

def pl : Nat → V → Bool
  | _, .none => true
  | _, .int _ => true
  | _, .str x => PyData.strOk x
  | n + 1, .tup vs => vs.all (pl n)
  | _, _ => false
mutual
def toPy : V → PyData
  | .none => .none
  | .int i => .int i
  | .str x => .str x
  | .tup vs => .tuple (toPys vs)
  | _ => .none
def toPys : List V → List PyData
  | [] => []
  | x :: xs => toPy x :: toPys xs
end
theorem toPys_eq (l : List V) : toPys l = l.map toPy := by
  induction l with
  | nil => rfl
  | cons x xs ih => simp [toPys, ih]

theorem RelL.split {G : Gl} {h : Heap} {x : V} {xs : List V} {l : List Value} (r : RelL G h (x :: xs) l) : ∃ v vs, l = v :: vs ∧ Rel G h x v ∧ RelL G h xs vs := by unfold RelL at r; exact r
theorem RelL.nil' {G : Gl} {h : Heap} {l : List Value} (r : RelL G h [] l) : l = [] := by unfold RelL at r; exact r
theorem Rel.tup' {G : Gl} {h : Heap} {vs : List V} {v : Value} (r : Rel G h (.tup vs) v) : ∃ a o xs n, v = .ref a ∧ h.get? a = some o ∧ o.cls = .type "tuple" ∧ o.data = .seq xs n ∧ RelL G h vs xs.toList := by
  unfold Rel at r
  obtain ⟨a, o, xs, e, ho, ⟨hc, n, hd⟩, hr⟩ := r
  exact ⟨a, o, xs, n, e, ho, hc, hd, hr⟩

theorem readsAll_of {G : Gl} {h : Heap} (n : Nat) (k : ∀ (x : V) (v : Value), pl n x = true → Rel G h x v → ∃ as, Reads h v (toPy x) as) :
    ∀ (xs : List V) (vs : List Value), xs.all (pl n) = true → RelL G h xs vs → ∃ as, ReadsAll h vs (toPys xs) as
  | [], _, _, r => by rw [r.nil']; exact ⟨_, .nil⟩
  | x :: xs, _, p, r => by
    obtain ⟨v, vs, rfl, r1, r2⟩ := r.split
    rw [List.all_cons, Bool.and_eq_true] at p
    obtain ⟨as, h1⟩ := k x v p.1 r1
    obtain ⟨bs, h2⟩ := readsAll_of n k xs vs p.2 r2
    exact ⟨_, .cons h1 h2⟩
theorem reads_of {G : Gl} {h : Heap} : ∀ (n : Nat) (x : V) (v : Value), pl n x = true → Rel G h x v → ∃ as, Reads h v (toPy x) as
  | n, .none, _, _, r => by simp only [Rel] at r; subst r; exact ⟨_, .none⟩
  | n, .int i, _, _, r => by simp only [Rel] at r; obtain ⟨t, rfl⟩ := r; exact ⟨_, .int i t⟩
  | n, .str i, _, _, r => by simp only [Rel] at r; obtain ⟨t, rfl⟩ := r; exact ⟨_, .str i t⟩
  | n + 1, .tup vs, _, p, r => by
    obtain ⟨a, o, xs, k, rfl, ho, hc, hd, hr⟩ := r.tup'
    obtain ⟨as, h1⟩ := readsAll_of n (reads_of n) vs xs.toList (by simpa [pl] using p) hr
    exact ⟨_, .tuple ho hc hd h1⟩
  | 0, .tup vs, _, p, _ => by simp [pl] at p
  | n, .bool b, _, p, _ => by simp [pl] at p
  | n, .ref b, _, p, _ => by simp [pl] at p
  | n, .typ b, _, p, _ => by simp [pl] at p
  | n, .bif b, _, p, _ => by simp [pl] at p
  | n, .glb b, _, p, _ => by simp [pl] at p
  | n, .scr, _, p, _ => by simp [pl] at p

theorem lay_of : ∀ (n : Nat) (x : V), pl n x = true → (toPy x).canLay0 = true ∧ (toPy x).depth ≤ n + 1 := by
  have all : ∀ (n : Nat), (∀ d, pl n d = true → (toPy d).canLay0 = true ∧ (toPy d).depth ≤ n + 1) → ∀ ds : List V, ds.all (pl n) = true → PyData.canLayAll0 (toPys ds) = true ∧ PyData.depthAll (toPys ds) ≤ n + 1 := by
    intro n ih ds
    induction ds with
    | nil => intro _; simp [toPys, PyData.canLayAll0, PyData.depthAll]
    | cons d ds ih2 =>
      intro p
      rw [List.all_cons, Bool.and_eq_true] at p
      obtain ⟨h1, h2⟩ := ih d p.1
      obtain ⟨h3, h4⟩ := ih2 p.2
      refine ⟨by simp [toPys, PyData.canLayAll0, h1, h3], ?_⟩
      simp only [toPys, PyData.depthAll]
      omega
  intro n
  induction n with
  | zero =>
    intro x p
    cases x <;> simp [pl, toPy, PyData.canLay0, PyData.depth] at p ⊢
    exact p
  | succ n ih =>
    intro x p
    cases x with
    | tup vs =>
      obtain ⟨h1, h2⟩ := all n ih vs (by simpa [pl] using p)
      refine ⟨by simpa [toPy, PyData.canLay0] using h1, ?_⟩
      simp only [toPy, PyData.depth]; omega
    | none => simp [toPy, PyData.canLay0, PyData.depth]
    | int i => simp [toPy, PyData.canLay0, PyData.depth]
    | str x => simp [pl, toPy, PyData.canLay0, PyData.depth] at p ⊢; exact p
    | _ => simp [pl] at p

theorem pl_cases {n : Nat} {x : V} (p : pl n x = true) : x = .none ∨ (∃ i, x = .int i) ∨ (∃ y, x = .str y) ∨ ∃ vs m, x = .tup vs ∧ n = m + 1 ∧ vs.all (pl m) = true := by
  cases x with
  | none => exact .inl rfl
  | int i => exact .inr (.inl ⟨i, rfl⟩)
  | str i => exact .inr (.inr (.inl ⟨i, rfl⟩))
  | tup vs => cases n with
    | zero => simp [pl] at p
    | succ m => exact .inr (.inr (.inr ⟨vs, m, rfl, rfl, by simpa [pl] using p⟩))
  | _ => simp [pl] at p

theorem eqv_of : ∀ (n : Nat) (x y : V) (k : Nat), pl n x = true → pl k y = true → (PyData.eqv (toPy x) (toPy y) = true ↔ x = y) := by
  have all : ∀ (n : Nat), (∀ d e k, pl n d = true → pl k e = true → (PyData.eqv (toPy d) (toPy e) = true ↔ d = e)) → ∀ (k : Nat) (ds es : List V), ds.all (pl n) = true → es.all (pl k) = true →
      (PyData.eqvAll (toPys ds) (toPys es) = true ↔ ds = es) := by
    intro n ih k ds
    induction ds with
    | nil => intro es _ _; cases es <;> simp [toPys, PyData.eqvAll]
    | cons d ds ih2 =>
      intro es p q
      cases es with
      | nil => simp [toPys, PyData.eqvAll]
      | cons e es =>
        rw [List.all_cons, Bool.and_eq_true] at p q
        simp only [toPys, PyData.eqvAll, Bool.and_eq_true, ih d e k p.1 q.1, ih2 es p.2 q.2, List.cons.injEq]
  intro n
  induction n with
  | zero =>
    intro x y k p q
    rcases pl_cases p with rfl | ⟨i, rfl⟩ | ⟨i, rfl⟩ | ⟨vs, m, rfl, e, _⟩
    · rcases pl_cases q with rfl | ⟨j, rfl⟩ | ⟨j, rfl⟩ | ⟨ws, m, rfl, e, _⟩ <;> simp [toPy, PyData.eqv]
    · rcases pl_cases q with rfl | ⟨j, rfl⟩ | ⟨j, rfl⟩ | ⟨ws, m, rfl, e, _⟩ <;> simp [toPy, PyData.eqv]
    · rcases pl_cases q with rfl | ⟨j, rfl⟩ | ⟨j, rfl⟩ | ⟨ws, m, rfl, e, _⟩ <;> simp [toPy, PyData.eqv]
    · cases e
  | succ n ih =>
    intro x y k p q
    rcases pl_cases p with rfl | ⟨i, rfl⟩ | ⟨i, rfl⟩ | ⟨vs, m, rfl, e, h1⟩
    · rcases pl_cases q with rfl | ⟨j, rfl⟩ | ⟨j, rfl⟩ | ⟨ws, m, rfl, e, _⟩ <;> simp [toPy, PyData.eqv]
    · rcases pl_cases q with rfl | ⟨j, rfl⟩ | ⟨j, rfl⟩ | ⟨ws, m, rfl, e, _⟩ <;> simp [toPy, PyData.eqv]
    · rcases pl_cases q with rfl | ⟨j, rfl⟩ | ⟨j, rfl⟩ | ⟨ws, m, rfl, e, _⟩ <;> simp [toPy, PyData.eqv]
    · rcases pl_cases q with rfl | ⟨j, rfl⟩ | ⟨j, rfl⟩ | ⟨ws, m', rfl, rfl, h2⟩
      · simp [toPy, PyData.eqv]
      · simp [toPy, PyData.eqv]
      · simp [toPy, PyData.eqv]
      · cases e
        simp only [toPy, PyData.eqv, V.tup.injEq]
        exact all n ih m' vs ws h1 h2

open Classical in
noncomputable def eqB (a b : V) : Bool := decide (a = b)
open Classical in
noncomputable def eqBL (a b : List V) : Bool := decide (a = b)

/-- == of two values: the answer -/
def eqS (a b : V) (σ : Store) (K : Bool → Prop) : Prop :=
  (pl 8 a = true ∧ pl 8 b = true ∧ K (eqB a b)) ∨
  (∃ x y, a = .bool x ∧ b = .bool y ∧ K (x == y)) ∨
  (∃ p q xs ys, a = .ref p ∧ b = .ref q ∧ σ p = some (.list xs) ∧ σ q = some (.list ys) ∧ ((xs.all (pl 8) = true ∧ ys.all (pl 8) = true) ∨ xs.length ≠ ys.length ∨ xs = [] ∨ ys = []) ∧ K (eqBL xs ys))

def isS (a b : V) : Option Bool := match a, b with
  | .none, .none => some true
  | .bool x, .bool y => some (x == y)
  | .ref _, .none | .int _, .none | .str _, .none | .tup _, .none | .bool _, .none => some false
  | .ref _, .bool _ | .int _, .bool _ | .str _, .bool _ | .tup _, .bool _ | .none, .bool _ => some false
  | _, _ => none

section
variable {C : Cx} {F : Fm} {ρ : Loc} {σ : Store} {s s' : Shared} {Q : QV} {v : Value} {x : V} {n : Nat} {E : Value → Shared → Prop}

theorem roomU {A : Around} {n k : Nat} (r : Room A n) (h : k ≤ 39 := by omega) : A.units + k < cLine := by have := r.2; omega

theorem eqv_eqB {a b : V} {n k : Nat} (ha : pl n a = true) (hb : pl k b = true) : PyData.eqv (toPy a) (toPy b) = eqB a b := by
  have := eqv_of n a b k ha hb
  unfold eqB
  cases h : PyData.eqv (toPy a) (toPy b) with
  | true => rw [this] at h; simp [h]
  | false =>
    have : a ≠ b := fun e => by rw [this.mpr e] at h; cases h
    simp [this]

theorem relList {a : Addr} {xs : List V} (I : Inv C F ρ σ s) (h : σ a = some (.list xs)) : ∃ items, s.heap.IsList a items ∧ RelL C.G s.heap xs items.toList := by
  obtain ⟨ys, n, h1, h4⟩ := (I.sto a _ h).1
  exact ⟨ys, ⟨_, h1, rfl, n, rfl⟩, h4⟩

theorem eqBL_len {xs ys : List V} (h : xs.length ≠ ys.length) : eqBL xs ys = false := by
  unfold eqBL; simp only [decide_eq_false_iff_not]; intro e; exact h (by rw [e])

theorem eqvAll_eqBL {xs ys : List V} (hx : xs.all (pl 8) = true) (hy : ys.all (pl 8) = true) : PyData.eqvAll (toPys xs) (toPys ys) = eqBL xs ys := by
  have e := eqv_eqB (n := 9) (k := 9) (a := .tup xs) (b := .tup ys) (by simpa [pl] using hx) (by simpa [pl] using hy)
  simp only [toPy, PyData.eqv] at e
  rw [e]; unfold eqB eqBL; simp

theorem depthAll_le {xs : List V} (h : xs.all (pl 8) = true) : PyData.depthAll (toPys xs) ≤ 9 ∧ PyData.canLayAll0 (toPys xs) = true := by
  have := lay_of 9 (.tup xs) (by simpa [pl] using h)
  simp only [toPy, PyData.depth, PyData.canLay0] at this
  exact ⟨by omega, this.1⟩

theorem eqS_ok {a b : V} {va vb : Value} {K : Bool → Prop} (I : Inv C F ρ σ s) (hr : Room F.A n) (ra : Rel C.G s.heap a va) (rb : Rel C.G s.heap b vb) (h : eqS a b σ K) :
    ∃ r, K r ∧ (∀ Q : Value → Shared → Prop, Q (.bool r) s → wpAny C.M F.A (compareOp .Eq va vb) Q E s) ∧ ∀ Q : Value → Shared → Prop, Q (.bool !r) s → wpAny C.M F.A (compareOp .NotEq va vb) Q E s := by
  rcases h with ⟨pa, pb, k⟩ | ⟨x, y, rfl, rfl, k⟩ | ⟨p, q, xs, ys, rfl, rfl, hp, hq, hh, k⟩
  · obtain ⟨as, da⟩ := reads_of 8 a va pa ra
    obtain ⟨bs, db⟩ := reads_of 8 b vb pb rb
    obtain ⟨la, ta⟩ := lay_of 8 a pa
    obtain ⟨lb, tb⟩ := lay_of 8 b pb
    have hu : F.A.units + min (toPy a).depth (toPy b).depth < cLine := by have := roomU (k := 39) hr; omega
    refine ⟨_, k, fun Q q => compareEq_reads da db la lb hu ?_, fun Q q => compareNe_reads da db la lb hu ?_⟩ <;> rw [eqv_eqB pa pb] <;> exact q
  · simp only [Rel] at ra rb
    subst ra; subst rb
    refine ⟨_, k, fun Q q => ?_, fun Q q => ?_⟩
    · exact compareEq_reads (.bool x) (.bool y) rfl rfl (by have := roomU (k := 39) hr; simp only [PyData.depth]; omega) (by simpa [PyData.eqv] using q)
    · exact compareNe_reads (.bool x) (.bool y) rfl rfl (by have := roomU (k := 39) hr; simp only [PyData.depth]; omega) (by simpa [PyData.eqv] using q)
  · simp only [Rel] at ra rb
    subst ra; subst rb
    obtain ⟨is, hl, hrl⟩ := relList I hp
    obtain ⟨js, hl', hrl'⟩ := relList I hq
    have l1 : is.size = xs.length := by have := hrl.length; simpa using this
    have l2 : js.size = ys.length := by have := hrl'.length; simpa using this
    have hu0 : F.A.units < cLine := by have := roomU (k := 39) hr; omega
    have lens : xs.length ≠ ys.length → ∃ r, K r ∧ (∀ Q : Value → Shared → Prop, Q (.bool r) s → wpAny C.M F.A (compareOp .Eq (.ref p) (.ref q)) Q E s) ∧ ∀ Q : Value → Shared → Prop, Q (.bool !r) s → wpAny C.M F.A (compareOp .NotEq (.ref p) (.ref q)) Q E s := fun hne => by
      rw [eqBL_len hne] at k
      have hsz : (is.size != js.size) = true := by simp [l1, l2, hne]
      exact ⟨false, k, fun Q q => SeqAt.RcAt.lists_lengths hl hl' hsz hu0 _ _ E Q q, fun Q q => SeqAt.RcNeAt.lists_lengths hl hl' hsz hu0 _ _ E Q q⟩
    have full : xs.all (pl 8) = true → ys.all (pl 8) = true → ∃ r, K r ∧ (∀ Q : Value → Shared → Prop, Q (.bool r) s → wpAny C.M F.A (compareOp .Eq (.ref p) (.ref q)) Q E s) ∧ ∀ Q : Value → Shared → Prop, Q (.bool !r) s → wpAny C.M F.A (compareOp .NotEq (.ref p) (.ref q)) Q E s := fun hx hy => by
      obtain ⟨o, h1, h2, m, h3⟩ := hl
      obtain ⟨o', h1', h2', m', h3'⟩ := hl'
      obtain ⟨as, da⟩ := readsAll_of 8 (reads_of 8) xs _ hx hrl
      obtain ⟨bs, db⟩ := readsAll_of 8 (reads_of 8) ys _ hy hrl'
      obtain ⟨d1, c1⟩ := depthAll_le hx
      obtain ⟨d2, c2⟩ := depthAll_le hy
      have hu : F.A.units + min (PyData.list (toPys xs)).depth (PyData.list (toPys ys)).depth < cLine := by
        have := roomU (k := 39) hr; simp only [PyData.depth]; omega
      have e : PyData.eqv (.list (toPys xs)) (.list (toPys ys)) = eqBL xs ys := by simp only [PyData.eqv]; exact eqvAll_eqBL hx hy
      refine ⟨_, k, fun Q q => compareEq_reads (.list h1 h2 h3 da) (.list h1' h2' h3' db) (by simpa [PyData.canLay0] using c1) (by simpa [PyData.canLay0] using c2) hu ?_,
        fun Q q => compareNe_reads (.list h1 h2 h3 da) (.list h1' h2' h3' db) (by simpa [PyData.canLay0] using c1) (by simpa [PyData.canLay0] using c2) hu ?_⟩ <;> rw [e] <;> exact q
    rcases hh with ⟨hx, hy⟩ | hne | rfl | rfl
    · exact full hx hy
    · exact lens hne
    · by_cases e : ys = []
      · subst e; exact full rfl rfl
      · exact lens (by simpa using fun q => e (List.eq_nil_of_length_eq_zero q.symm))
    · by_cases e : xs = []
      · subst e; exact full rfl rfl
      · exact lens (by simpa using e)
end
end Mine

set_option linter.unusedVariables false
set_option autoImplicit false
namespace Mine
open PySem PySem.Calls PyProof.Rows

abbrev FnT := List V → Store → QV → XP → Prop
/-- what the walk of a body leans on: the globals, the defs with their ranks, the level of the frame -/
structure Dm where
  G : Gl
  w : World
  ge : Str → Option V
  T : Str → Option (Nat × FnT)
  lvl : Nat

inductive Fl where
  | next | brk | cont
  | ret (v : V)

abbrev Sc := Str → Option NameKind
abbrev QS := Fl → Loc → Store → Prop

def nameS (ge : Str → Option V) (sc : Sc) (ρ : Loc) (x : Str) : Option V := match sc x with
  | some .local | some .cell | some .free => ρ x
  | some .globalImplicit => ge x
  | _ => none

def constS (c : Const) (K : V → Prop) : Prop := match c with
  | .none => K .none
  | .bool b => K (.bool b)
  | .int i => K (.int i)
  | .str x => K (.str x)
  | _ => False

def unS (op : UnaryOp) (a : V) (σ : Store) (Q : QV) : Prop := match op, a with
  | .Not, .bool b => Q (.bool !b) σ
  | .USub, .int i => Q (.int (-i)) σ
  | _, _ => False

open Classical in
noncomputable def memB (x : V) (l : List V) : Bool := decide (x ∈ l)
def inStr (y x : Str) : Bool := !(Builtin.Str.occurrences x y 0 x.length 1).isEmpty

def keyT : V → Option (List Atom)
  | .tup vs => toAtoms vs
  | _ => none
/-- keys of one kind -/
def keysOk (k : V) (kvs : List (V × V)) : Prop :=
  ((toAtom k).isSome = true ∧ ∀ p ∈ kvs, (toAtom p.1).isSome = true) ∨ ((keyT k).isSome = true ∧ ∀ p ∈ kvs, (keyT p.1).isSome = true)

open Classical in
noncomputable def dget (kvs : List (V × V)) (k : V) : Option V := (kvs.find? fun p => decide (p.1 = k)).map (·.2)
open Classical in
noncomputable def dput (kvs : List (V × V)) (k v : V) : List (V × V) :=
  if (dget kvs k).isSome then kvs.map (fun p => if p.1 = k then (p.1, v) else p) else kvs ++ [(k, v)]

def inS (a b : V) (σ : Store) (K : Bool → Prop) : Prop := match a, b with
  | .str y, .str x => K (inStr y x)
  | k, .ref d => match σ d with
    | some (.list vs) => pl 8 k = true ∧ vs.all (pl 8) = true ∧ K (memB k vs)
    | _ => False
  | _, _ => False

def cmpS (op : CmpOp) (a b : V) (σ : Store) (Q : QV) : Prop := match op with
  | .Eq => eqS a b σ fun r => Q (.bool r) σ
  | .NotEq => eqS a b σ fun r => Q (.bool !r) σ
  | .Is => ∃ r, isS a b = some r ∧ Q (.bool r) σ
  | .IsNot => ∃ r, isS a b = some r ∧ Q (.bool !r) σ
  | .In => inS a b σ fun r => Q (.bool r) σ
  | .NotIn => inS a b σ fun r => Q (.bool !r) σ
  | .Lt => ∃ i j, a = .int i ∧ b = .int j ∧ Q (.bool (decide (i < j))) σ
  | .LtE => ∃ i j, a = .int i ∧ b = .int j ∧ Q (.bool (decide (i ≤ j))) σ
  | .Gt => ∃ i j, a = .int i ∧ b = .int j ∧ Q (.bool (decide (i > j))) σ
  | .GtE => ∃ i j, a = .int i ∧ b = .int j ∧ Q (.bool (decide (i ≥ j))) σ

/-- the items of a sequence -/
def seqS (G : Gl) (σ : Store) : V → Option (List V)
  | .tup vs => some vs
  | .ref a => match σ a with
    | some (.list vs) => some vs
    | _ => none
  | .scr => some (G.ns.map .int)
  | _ => none

def lenS (G : Gl) (σ : Store) : V → Option Nat
  | .str x => some x.length
  | .ref a => match σ a with
    | some (.list vs) => some vs.length
    | _ => none
  | .tup vs => some vs.length
  | .scr => some G.ns.length
  | _ => none

def charAt (x : Str) (j : Nat) : Option V := (x.cps[j]?).map fun c => .str ⟨#[c]⟩

def idxS (i : Int) (n : Nat) : Option Nat := seqIndex? i n

def itemS (G : Gl) (a b : V) (σ : Store) (Q : QV) : Prop := match a with
  | .str x => ∃ i j v, b = .int i ∧ -(2 ^ 62) ≤ i ∧ i < 2 ^ 62 ∧ idxS i x.length = some j ∧ charAt x j = some v ∧ Q v σ
  | .ref d => match σ d with
    | some (.list vs) => ∃ i j v, b = .int i ∧ -(2 ^ 62) ≤ i ∧ i < 2 ^ 62 ∧ idxS i vs.length = some j ∧ vs[j]? = some v ∧ Q v σ
    | _ => False
  | .tup vs => ∃ i j v, b = .int i ∧ -(2 ^ 62) ≤ i ∧ i < 2 ^ 62 ∧ idxS i vs.length = some j ∧ vs[j]? = some v ∧ Q v σ
  | .scr => ∃ i v, b = .int i ∧ 0 ≤ i ∧ i < 2 ^ 62 ∧ G.ns[i.toNat]? = some v ∧ Q (.int v) σ
  | _ => False

/-- a bound of a slice -/
def boundS : V → Option (Option Int)
  | .none => some none
  | .int i => some (some i)
  | _ => none
def loOf (l : Option Int) (n : Nat) : Nat := match l with
  | none => 0
  | some i => if i < 0 then (i + n).toNat else min i.toNat n
def hiOf (u : Option Int) (n : Nat) : Nat := match u with
  | none => n
  | some i => if i < 0 then (i + n).toNat else min i.toNat n
def cut {α : Type} (xs : List α) (l u : Option Int) : List α := (xs.take (hiOf u xs.length)).drop (loOf l xs.length)

def sliceS (G : Gl) (a l u : V) (σ : Store) (Q : QV) : Prop := ∃ l' u', boundS l = some l' ∧ boundS u = some u' ∧ match a with
  | .str x => x.length ≤ sizeLine ∧ Q (.str ⟨(cut x.cps.toList l' u').toArray⟩) σ
  | .tup vs => False
  | .scr => ∀ r, σ r = none → Q (.ref r) (σ.set r (.list (cut (G.ns.map .int) l' u')))
  | .ref d => match σ d with
    | some (.list vs) => vs.length ≤ sizeLine ∧ ∀ r, σ r = none → Q (.ref r) (σ.set r (.list (cut vs l' u')))
    | _ => False
  | _ => False

/-- what isinstance says: the classes of a value -/
def typeV (σ : Store) : V → Option String
  | .str _ => some "str"
  | .int _ => some "int"
  | .bool _ => some "bool"
  | .none => some "NoneType"
  | .tup _ => some "tuple"
  | .ref a => match σ a with
    | some (.list _) => some "list"
    | some (.dict _) => some "dict"
    | _ => none
  | _ => none
def isInst (σ : Store) (a : V) (t : String) : Option Bool := (typeV σ a).map fun x => x == t || (x == "bool" && t == "int")

def allBools : List V → Option (List Bool)
  | [] => some []
  | .bool b :: r => (allBools r).map (b :: ·)
  | _ :: _ => none
def allInts : List V → Option (List Int)
  | [] => some []
  | .int b :: r => (allInts r).map (b :: ·)
  | _ :: _ => none
def allStrs : List V → Option (List Str)
  | [] => some []
  | .str b :: r => (allStrs r).map (b :: ·)
  | _ :: _ => none

def callB (D : Dm) (n : String) (args : List V) (σ : Store) (Q : QV) : Prop :=
  if n = "len" then ∃ a k, args = [a] ∧ lenS D.G σ a = some k ∧ k ≤ 2 ^ 40 ∧ Q (.int k) σ
  else if n = "isinstance" then ∃ a t r, args = [a, .typ t] ∧ t ∈ ["str", "int", "bool", "list", "tuple"] ∧ isInst σ a t = some r ∧ Q (.bool r) σ
  else if n = "all" then ∃ a vs bs, args = [.ref a] ∧ σ a = some (.list vs) ∧ allBools vs = some bs ∧ Q (.bool (bs.all id)) σ
  else if n = "abs" then ∃ i, args = [.int i] ∧ Q (.int i.natAbs) σ
  else False

def callY (D : Dm) (n : String) (args : List V) (σ : Store) (Q : QV) : Prop :=
  if n = "list" then ∃ a vs, args = [a] ∧ seqS D.G σ a = some vs ∧ vs.length ≤ sizeLine ∧ ∀ r, σ r = none → Q (.ref r) (σ.set r (.list vs))
  else False

def callS (D : Dm) (f : V) (args : List V) (σ : Store) (Q : QV) (X : XP) : Prop := match f with
  | .glb n => ∃ r t, D.T n = some (r, t) ∧ r ≤ D.lvl ∧ t args σ Q X
  | .bif n => callB D n args σ Q
  | .typ n => callY D n args σ Q
  | _ => False

/-- what may be called -/
def okFn (D : Dm) : V → Prop
  | .bif _ | .typ _ => True
  | .glb n => ∃ r t, D.T n = some (r, t) ∧ r ≤ D.lvl
  | _ => False

/-- the method that a name means -/
def methId (σ : Store) (a : V) (m : Str) : Option String := match a with
  | .str _ => if m = "index" then some "str.index" else if m = "lower" then some "str.lower" else if m = "upper" then some "str.upper" else if m = "join" then some "str.join" else none
  | .ref d => match σ d with
    | some (.list _) => if m = "append" then some "list.append" else if m = "pop" then some "list.pop" else none
    | _ => none
  | _ => none
def methS (D : Dm) (a : V) (m : Str) (args : List V) (σ : Store) (Q : QV) : Prop := match a with
  | .str x =>
    if m = "index" then ∃ c j, args = [.str ⟨#[c]⟩] ∧ x.cps.toList.idxOf? c = some j ∧ Q (.int (j : Nat)) σ
    else if m = "lower" then args = [] ∧ x.length ≤ 2 ^ 20 ∧ Q (.str (Txt.lower x)) σ
    else if m = "upper" then args = [] ∧ x.length ≤ 2 ^ 20 ∧ Q (.str (Txt.upper x)) σ
    else if m = "join" then ∃ a vs ss, args = [.ref a] ∧ σ a = some (.list vs) ∧ allStrs vs = some ss ∧ x.cps = #[] ∧ (ss.map (·.length)).sum ≤ 2 ^ 20 ∧ Q (.str ⟨(ss.flatMap (·.cps.toList)).toArray⟩) σ
    else False
  | .ref d => match σ d with
    | some (.list vs) =>
      if m = "append" then ∃ v, args = [v] ∧ vs.length < 2 ^ 20 ∧ Q .none (σ.set d (.list (vs ++ [v])))
      else if m = "pop" then args = [] ∧ vs.length ≤ 2 ^ 20 ∧ ∃ v, vs.getLast? = some v ∧ Q v (σ.set d (.list vs.dropLast))
      else False
    | _ => False
  | _ => False
def methOk (o : Expr) (ap p : Pos) (args : List Expr) : Bool := (match o with | .Call (.Name ..) [] [] _ => false | _ => true) && (ap.endLine == p.line) && decide (args.length < 30)

/-- names bound by a target -/
def bindNames (sc : Sc) : List Expr → List V → Loc → Option Loc
  | [], [], ρ => some ρ
  | .Name x _ :: ts, v :: vs, ρ => if sc x = some .local ∨ sc x = some .cell then bindNames sc ts vs (ρ.set x v) else none
  | _, _, _ => none
def bindS (sc : Sc) (t : Expr) (v : V) (ρ : Loc) : Option Loc := match t with
  | .Name x _ => if sc x = some .local ∨ sc x = some .cell then some (ρ.set x v) else none
  | .Tuple ts _ _ => match v with
    | .tup vs => bindNames sc ts vs ρ
    | _ => none
  | _ => none

def compL (one : V → Loc → Store → (Loc → Option V → Store → Prop) → Prop) (ok : Store → Prop) : List V → Loc → Store → (List V → Store → Prop) → Prop
  | [], _, σ, K => ok σ ∧ K [] σ
  | x :: xs, ρ, σ, K => ok σ ∧ one x ρ σ fun ρ' r σ' => compL one ok xs ρ' σ' fun vs σ'' => K (match r with | some v => v :: vs | none => vs) σ''

def forL (body : V → Loc → Store → QS → Prop) (ok : Store → Prop) : List V → Loc → Store → QS → Prop
  | [], ρ, σ, K => ok σ ∧ K .next ρ σ
  | x :: xs, ρ, σ, K => ok σ ∧ body x ρ σ fun f ρ' σ' => match f with
    | .next | .cont => forL body ok xs ρ' σ' K
    | .brk => K .next ρ' σ'
    | .ret v => K (.ret v) ρ' σ'

def whileL (test : Loc → Store → (Bool → Store → Prop) → Prop) (body : Loc → Store → QS → Prop) : Nat → Loc → Store → QS → Prop
  | 0, _, _, _ => False
  | n + 1, ρ, σ, K => test ρ σ fun b σ₁ => if b then body ρ σ₁ (fun f ρ' σ' => match f with
      | .next | .cont => whileL test body n ρ' σ' K
      | .brk => K .next ρ' σ'
      | .ret v => K (.ret v) ρ' σ') else K .next ρ σ₁

/-- what a for goes over: the items, and what must stand -/
def iterS (D : Dm) (v : V) (σ : Store) (K : (Store → Prop) → List V → Prop) : Prop := match v with
  | .str x => K (fun _ => True) (x.cps.toList.map fun c => .str ⟨#[c]⟩)
  | .tup vs => K (fun _ => True) vs
  | .ref a => match σ a with
    | some (.list vs) => K (fun σ' => σ' a = some (.list vs)) vs
    | _ => False
  | .scr => K (fun _ => True) (D.G.ns.map .int)
  | _ => False

/-- the few words a for's head may say around a value -/
inductive Hd where
  | plain | range | enumerate | reversed
def headS (D : Dm) (hd : Hd) (v : V) (σ : Store) (K : (Store → Prop) → List V → Prop) : Prop := match hd with
  | .plain => iterS D v σ K
  | .range => ∃ n : Int, v = .int n ∧ -(2 ^ 62) ≤ n ∧ n < 2 ^ 62 ∧ K (fun _ => True) ((List.range n.toNat).map fun (i : Nat) => V.int (i : Int))
  | .enumerate => False
  | .reversed => match v with
    | .str x => x.length < 2 ^ 62 ∧ K (fun _ => True) (x.cps.toList.reverse.map fun c => .str ⟨#[c]⟩)
    | .tup vs => vs.length < 2 ^ 62 ∧ K (fun _ => True) vs.reverse
    | _ => False
/-- the head of a for: the word, and the expression whose value it goes over -/
def headOf : Expr → Hd × Expr
  | .Call (.Name n p) [e] [] q => if n = "range" then (.range, e) else if n = "enumerate" then (.enumerate, e) else if n = "reversed" then (.reversed, e) else (.plain, .Call (.Name n p) [e] [] q)
  | e => (.plain, e)
def isHead (n : Str) : Bool := n == "range" || n == "enumerate" || n == "reversed"
def plainArgs : List Expr → Bool
  | [] => true
  | .Starred .. :: _ => false
  | _ :: r => plainArgs r
def notSet : Expr → Bool
  | .Set .. => false
  | _ => true
/-- the word means the built-in -/
def headOk (ge : Str → Option V) (sc : Sc) : Hd → Prop
  | .plain => True
  | .range => sc "range" = some .globalImplicit ∧ ge "range" = some (.typ "range")
  | .enumerate => sc "enumerate" = some .globalImplicit ∧ ge "enumerate" = some (.typ "enumerate")
  | .reversed => sc "reversed" = some .globalImplicit ∧ ge "reversed" = some (.typ "reversed")

/-- a comprehension's scope is plain -/
def compOk (sc : Sc) (scope : Scope) : Prop := scope.kind = .function ∧ (∀ p ∈ scope.names, p.2 ≠ .cell ∧ (p.2 = .local → scope.names.lookup p.1 = some .local) ∧ (p.2 = .free → scope.names.lookup p.1 = some .free ∧ (sc p.1 = some .cell ∨ sc p.1 = some .free))) ∧
  scope.names.lookup (Str.ofString "__debug__") = none ∧ scope.names.lookup (Str.ofString "__classdict__") = none
/-- what a word of a head asks of the target -/
def tgtOk : Hd → Expr → Prop
  | .enumerate, .Tuple .. => True
  | .enumerate, _ => False
  | _, _ => True

mutual
def wpE (D : Dm) : Expr → Sc → Loc → Store → QV → XP → Prop
  | .Constant c _ _, sc, ρ, σ, Q, X => constS c fun v => Q v σ
  | .Name x _, sc, ρ, σ, Q, X => ∃ v, nameS D.ge sc ρ x = some v ∧ Q v σ
  | .BinOp l op r _, sc, ρ, σ, Q, X => wpE D l sc ρ σ (fun a σ₁ => wpE D r sc ρ σ₁ (fun b σ₂ => binS op a b σ₂ Q) X) X
  | .UnaryOp op e _, sc, ρ, σ, Q, X => wpE D e sc ρ σ (fun a σ₁ => unS op a σ₁ Q) X
  | .BoolOp op es _, sc, ρ, σ, Q, X => wpB D op es sc ρ σ Q X
  | .Compare l [op] [r] _, sc, ρ, σ, Q, X => notSet r = true ∧ wpE D l sc ρ σ (fun a σ₁ => wpE D r sc ρ σ₁ (fun b σ₂ => cmpS op a b σ₂ Q) X) X
  | .IfExp t a b _, sc, ρ, σ, Q, X => wpE D t sc ρ σ (fun c σ₁ => ∃ k, c = .bool k ∧ if k then wpE D a sc ρ σ₁ Q X else wpE D b sc ρ σ₁ Q X) X
  | .Tuple es _ _, sc, ρ, σ, Q, X => wpL D es sc ρ σ (fun vs σ₁ => vs.length ≤ sizeLine ∧ Q (.tup vs) σ₁) X
  | .List es _, sc, ρ, σ, Q, X => wpL D es sc ρ σ (fun vs σ₁ => vs.length ≤ sizeLine ∧ ∀ a, σ₁ a = none → Q (.ref a) (σ₁.set a (.list vs))) X
  | .Call (.Attribute o m ap) args [] p, sc, ρ, σ, Q, X => plainArgs args = true ∧ methOk o ap p args = true ∧ wpE D o sc ρ σ (fun r σ₁ => (methId σ₁ r m).isSome = true ∧ wpL D args sc ρ σ₁ (fun vs σ₂ => methS D r m vs σ₂ Q) X) X
  | .Call (.Name f _) args [] _, sc, ρ, σ, Q, X => plainArgs args = true ∧ ∃ g, nameS D.ge sc ρ f = some g ∧ okFn D g ∧ wpL D args sc ρ σ (fun vs σ₂ => callS D g vs σ₂ Q X) X
  | .Subscript v (.Slice lo hi none _) _, sc, ρ, σ, Q, X => wpE D v sc ρ σ (fun a σ₁ => wpO D lo sc ρ σ₁ (fun l σ₂ => wpO D hi sc ρ σ₂ (fun u σ₃ => sliceS D.G a l u σ₃ Q) X) X) X
  | .Subscript v i _, sc, ρ, σ, Q, X => wpE D v sc ρ σ (fun a σ₁ => wpE D i sc ρ σ₁ (fun b σ₂ => itemS D.G a b σ₂ Q) X) X
  | .ListComp elt [⟨tgt, it, ifs, 0⟩] scope _, sc, ρ, σ, Q, X =>
    headOk D.ge sc (headOf it).1 ∧ tgtOk (headOf it).1 tgt ∧ compOk sc scope ∧ notSet it = true ∧
    (let K : QV := fun v σ₁ => headS D (headOf it).1 v σ₁ fun ok items =>
      items.length ≤ 2 ^ 20 ∧ compL (fun x ρ' σ' k => ∃ ρ'', bindS (fun y => scope.names.lookup y) tgt x ρ' = some ρ'' ∧
          wpIf D ifs (fun y => scope.names.lookup y) ρ'' σ' (fun c σ₂ => if c then wpE D elt (fun y => scope.names.lookup y) ρ'' σ₂ (fun u σ₃ => k ρ'' (some u) σ₃) (fun _ => False) else k ρ'' none σ₂))
        ok items (fun y => if scope.names.lookup y = some .free then ρ y else none) σ₁ (fun vs σ₂ => ∀ a, σ₂ a = none → Q (.ref a) (σ₂.set a (.list vs)))
     let whole : Prop := wpE D it sc ρ σ K X
     match it with
     | .Call (.Name n _) [e] [] _ => if isHead n then wpE D e sc ρ σ K X else whole
     | _ => whole)
  | _, _, _, _, _, _ => False
def wpL (D : Dm) : List Expr → Sc → Loc → Store → (List V → Store → Prop) → XP → Prop
  | [], sc, ρ, σ, Q, X => Q [] σ
  | e :: es, sc, ρ, σ, Q, X => wpE D e sc ρ σ (fun v σ₁ => wpL D es sc ρ σ₁ (fun vs σ₂ => Q (v :: vs) σ₂) X) X
def wpO (D : Dm) : Option Expr → Sc → Loc → Store → QV → XP → Prop
  | none, sc, ρ, σ, Q, X => Q .none σ
  | some e, sc, ρ, σ, Q, X => wpE D e sc ρ σ Q X
def wpB (D : Dm) : BoolOp → List Expr → Sc → Loc → Store → QV → XP → Prop
  | _, [], _, _, _, _, _ => False
  | _, [e], sc, ρ, σ, Q, X => wpE D e sc ρ σ (fun v σ₁ => ∃ b, v = .bool b ∧ Q v σ₁) X
  | op, e :: es, sc, ρ, σ, Q, X => wpE D e sc ρ σ (fun v σ₁ => ∃ b, v = .bool b ∧ if b = (op == .Or) then Q v σ₁ else wpB D op es sc ρ σ₁ Q X) X
def wpIf (D : Dm) : List Expr → Sc → Loc → Store → (Bool → Store → Prop) → Prop
  | [], _, _, σ, K => K true σ
  | e :: es, sc, ρ, σ, K => wpE D e sc ρ σ (fun v σ₁ => ∃ b, v = .bool b ∧ if b then wpIf D es sc ρ σ₁ K else K false σ₁) (fun _ => False)
end

/-- the head of a for statement -/
def wpH (D : Dm) (it : Expr) (sc : Sc) (ρ : Loc) (σ : Store) (K : QV) (X : XP) : Prop :=
  headOk D.ge sc (headOf it).1 ∧ notSet it = true ∧ wpE D (headOf it).2 sc ρ σ K X

def notCompB : Expr → Bool
  | .ListComp .. | .SetComp .. | .DictComp .. => false
  | _ => true
def notRef : V → Prop
  | .ref _ | .tup _ | .scr | .glb _ => False
  | _ => True

/-- the exception classes of the text -/
def excS (D : Dm) (n : Str) : Prop := n = "BadWord" ∧ D.ge n = some (.glb n)

def setS (a i v : V) (σ : Store) (K : Store → Prop) : Prop := match a with
  | .ref d => match σ d with
    | some (.list vs) => ∃ k : Int, i = .int k ∧ 0 ≤ k ∧ k.toNat < vs.length ∧ k < 2 ^ 62 ∧ K (σ.set d (.list (vs.set k.toNat v)))
    | some (.dict kvs) => keysOk i kvs ∧ kvs.length < 2 ^ 20 ∧ K (σ.set d (.dict (dput kvs i v)))
    | _ => False
  | _ => False

/-- the names of a clause that asks after the exception -/
structure RefOk (D : Dm) (sc : Sc) (ρ : Loc) (g n i1 n1 c1 i2 n2 c2 i3 n3 c3 : Str) : Prop where
  hg : g = "GlueError"
  hi : i1 = "isinstance" ∧ i2 = "isinstance" ∧ i3 = "isinstance"
  hn : n1 = n ∧ n2 = n ∧ n3 = n
  hc : c1 = "BadWord" ∧ c2 = "ValueError" ∧ c3 = "BadWeb"
  scn : sc n = some .local
  hfree : ρ n = none
  scg : sc "GlueError" = some .globalImplicit ∧ sc "isinstance" = some .globalImplicit ∧ sc "BadWord" = some .globalImplicit ∧ sc "ValueError" = some .globalImplicit ∧ sc "BadWeb" = some .globalImplicit
  hge : D.ge "GlueError" = some (.glb "GlueError") ∧ D.ge "isinstance" = some (.bif "isinstance") ∧ D.ge "BadWord" = some (.glb "BadWord") ∧ D.ge "ValueError" = some (.typ "ValueError") ∧ D.ge "BadWeb" = some (.glb "BadWeb")

/-- isinstance(x, c), as a form -/
def isForm : Expr → Option (Str × Str × Str)
  | .Call (.Name i _) args kws _ => match args with
    | [a, b] => (match a with
      | .Name n _ => (match b with
        | .Name c _ => if kws.isEmpty then some (i, n, c) else none
        | _ => none)
      | _ => none)
    | _ => none
  | _ => none
/-- the clause's answer: three questions after the exception -/
def askForm : Expr → Option (Expr × Expr × Expr)
  | .BoolOp .And es _ => match es with
    | [a, b, c] => (match c with
      | .UnaryOp .Not d _ => some (a, b, d)
      | _ => none)
    | _ => none
  | _ => none
/-- the suite of the clause -/
def suiteForm : List Stmt → Option Expr
  | [st] => match st with
    | .Return (some e) _ => some e
    | _ => none
  | _ => none
/-- the clause: the class, the name, the suite -/
def clauseForm : List ExceptHandler → Option (Str × Str × List Stmt)
  | [h] => match h with
    | .ExceptHandler (some (.Name g _)) (some n) b _ => some (g, n, b)
    | _ => none
  | _ => none
/-- the one expression that is tried -/
def bodyForm : List Stmt → Option Expr
  | [st] => match st with
    | .Expr e _ => some e
    | _ => none
  | _ => none
def wpTry (D : Dm) (b : List Stmt) (h : List ExceptHandler) (o f : List Stmt) (sc : Sc) (ρ : Loc) (σ : Store) (Q : QS) : Prop :=
  o = [] ∧ f = [] ∧ ∃ call g n suite ans a1 a2 a3 i1 n1 c1 i2 n2 c2 i3 n3 c3, bodyForm b = some call ∧ clauseForm h = some (g, n, suite) ∧ suiteForm suite = some ans ∧ askForm ans = some (a1, a2, a3) ∧
    isForm a1 = some (i1, n1, c1) ∧ isForm a2 = some (i2, n2, c2) ∧ isForm a3 = some (i3, n3, c3) ∧
    RefOk D sc ρ g n i1 n1 c1 i2 n2 c2 i3 n3 c3 ∧ notCompB call = true ∧ wpE D call sc ρ σ (fun v σ₁ => notRef v ∧ Q .next ρ σ₁) (fun σ₁ => Q (.ret (.bool true)) ρ σ₁)
/-- what is raised: the class, and one written text -/
def raiseForm : Option Expr → Option Str
  | some e => match e with
    | .Call (.Name n _) args kws _ => (match args with
      | [a] => (match a with
        | .Constant (.str _) _ _ => if kws.isEmpty then some n else none
        | _ => none)
      | _ => none)
    | _ => none
  | none => none
def isTup : Expr → Bool
  | .Tuple .. => true
  | _ => false
def wpAssign (D : Dm) (ts : List Expr) (e : Expr) (sc : Sc) (ρ : Loc) (σ : Store) (Q : QS) (X : XP) : Prop := match ts with
  | [t] => (match t with
    | .Name x p => wpE D e sc ρ σ (fun v σ₁ => ∃ ρ', bindS sc (.Name x p) v ρ = some ρ' ∧ Q .next ρ' σ₁) X
    | .Tuple ts k p => ((ts.length ≠ 2 ∧ ts.length ≠ 3) ∨ isTup e = false) ∧ wpE D e sc ρ σ (fun v σ₁ => ∃ ρ', bindS sc (.Tuple ts k p) v ρ = some ρ' ∧ Q .next ρ' σ₁) X
    | _ => False)
  | _ => False

mutual
def wpS (D : Dm) : Stmt → Sc → Loc → Store → QS → XP → Prop
  | .Return e _, sc, ρ, σ, Q, X => wpO D e sc ρ σ (fun v σ₁ => Q (.ret v) ρ σ₁) X
  | .Pass _, sc, ρ, σ, Q, X => Q .next ρ σ
  | .Expr e _, sc, ρ, σ, Q, X => notCompB e = true ∧ wpE D e sc ρ σ (fun v σ₁ => notRef v ∧ Q .next ρ σ₁) X
  | .Assign ts e _, sc, ρ, σ, Q, X => wpAssign D ts e sc ρ σ Q X
  | .If t a b _, sc, ρ, σ, Q, X => wpE D t sc ρ σ (fun c σ₁ => ∃ k, c = .bool k ∧ if k then wpSs D a sc ρ σ₁ Q X else wpSs D b sc ρ σ₁ Q X) X
  | .While t body o _, sc, ρ, σ, Q, X => o = [] ∧ ∃ n, whileL (fun ρ' σ' K => wpE D t sc ρ' σ' (fun c σ₁ => ∃ k, c = .bool k ∧ K k σ₁) X) (fun ρ' σ' K => wpSs D body sc ρ' σ' K X) n ρ σ Q
  | .For tgt it body o _, sc, ρ, σ, Q, X => o = [] ∧ tgtOk (headOf it).1 tgt ∧ wpH D it sc ρ σ (fun v σ₁ => headS D (headOf it).1 v σ₁ fun ok items =>
      forL (fun x ρ' σ' K => ∃ ρ'', bindS sc tgt x ρ' = some ρ'' ∧ wpSs D body sc ρ'' σ' K X) ok items ρ σ₁ Q) X
  | .Raise e c _, sc, ρ, σ, Q, X => c.isNone = true ∧ ∃ n, raiseForm e = some n ∧ excS D n ∧ sc n = some .globalImplicit ∧ X σ
  | .Try b h o f _, sc, ρ, σ, Q, X => wpTry D b h o f sc ρ σ Q
  | _, _, _, _, _, _ => False
def wpSs (D : Dm) : List Stmt → Sc → Loc → Store → QS → XP → Prop
  | [], sc, ρ, σ, Q, X => Q .next ρ σ
  | st :: r, sc, ρ, σ, Q, X => wpS D st sc ρ σ (fun f ρ' σ' => match f with | .next => wpSs D r sc ρ' σ' Q X | f => Q f ρ' σ') X
end
end Mine

set_option linter.unusedVariables false
set_option autoImplicit false
namespace Mine
open PySem PySem.Calls PyProof.Rows

section
variable {D : Dm} {sc : Sc} {ρ : Loc} {σ : Store} {Q : QV} {X : XP} {p q q' : Pos}
theorem wpE_Constant {c : Const} {k : Nat} : wpE D (.Constant c k p) sc ρ σ Q X = constS c fun v => Q v σ := rfl
theorem wpE_Name {x : Str} : wpE D (.Name x p) sc ρ σ Q X = ∃ v, nameS D.ge sc ρ x = some v ∧ Q v σ := rfl
theorem wpE_BinOp {l r : Expr} {op : Operator} : wpE D (.BinOp l op r p) sc ρ σ Q X = wpE D l sc ρ σ (fun a σ₁ => wpE D r sc ρ σ₁ (fun b σ₂ => binS op a b σ₂ Q) X) X := rfl
theorem wpE_UnaryOp {e : Expr} {op : UnaryOp} : wpE D (.UnaryOp op e p) sc ρ σ Q X = wpE D e sc ρ σ (fun a σ₁ => unS op a σ₁ Q) X := rfl
theorem wpE_BoolOp {es : List Expr} {op : BoolOp} : wpE D (.BoolOp op es p) sc ρ σ Q X = wpB D op es sc ρ σ Q X := rfl
theorem wpE_Compare {l r : Expr} {op : CmpOp} : wpE D (.Compare l [op] [r] p) sc ρ σ Q X = (notSet r = true ∧ wpE D l sc ρ σ (fun a σ₁ => wpE D r sc ρ σ₁ (fun b σ₂ => cmpS op a b σ₂ Q) X) X) := rfl
theorem wpE_IfExp {t a b : Expr} : wpE D (.IfExp t a b p) sc ρ σ Q X = wpE D t sc ρ σ (fun c σ₁ => ∃ k, c = .bool k ∧ if k then wpE D a sc ρ σ₁ Q X else wpE D b sc ρ σ₁ Q X) X := rfl
theorem wpE_Tuple {es : List Expr} {k : Nat} : wpE D (.Tuple es k p) sc ρ σ Q X = wpL D es sc ρ σ (fun vs σ₁ => vs.length ≤ sizeLine ∧ Q (.tup vs) σ₁) X := rfl
theorem wpE_List {es : List Expr} : wpE D (.List es p) sc ρ σ Q X = wpL D es sc ρ σ (fun vs σ₁ => vs.length ≤ sizeLine ∧ ∀ a, σ₁ a = none → Q (.ref a) (σ₁.set a (.list vs))) X := rfl
theorem wpE_Meth {o : Expr} {m : Str} {ap : Pos} {args : List Expr} : wpE D (.Call (.Attribute o m ap) args [] p) sc ρ σ Q X = (plainArgs args = true ∧ methOk o ap p args = true ∧ wpE D o sc ρ σ (fun r σ₁ => (methId σ₁ r m).isSome = true ∧ wpL D args sc ρ σ₁ (fun vs σ₂ => methS D r m vs σ₂ Q) X) X) := rfl
theorem wpE_Call {f : Str} {args : List Expr} : wpE D (.Call (.Name f q) args [] p) sc ρ σ Q X = (plainArgs args = true ∧ ∃ g, nameS D.ge sc ρ f = some g ∧ okFn D g ∧ wpL D args sc ρ σ (fun vs σ₂ => callS D g vs σ₂ Q X) X) := rfl
theorem wpE_Slice {v : Expr} {lo hi : Option Expr} : wpE D (.Subscript v (.Slice lo hi none q) p) sc ρ σ Q X = wpE D v sc ρ σ (fun a σ₁ => wpO D lo sc ρ σ₁ (fun l σ₂ => wpO D hi sc ρ σ₂ (fun u σ₃ => sliceS D.G a l u σ₃ Q) X) X) X := rfl
theorem wpE_ItemN {v : Expr} {x : Str} : wpE D (.Subscript v (.Name x q) p) sc ρ σ Q X = wpE D v sc ρ σ (fun a σ₁ => wpE D (.Name x q) sc ρ σ₁ (fun b σ₂ => itemS D.G a b σ₂ Q) X) X := rfl
theorem wpE_ItemB {v l r : Expr} {op : Operator} : wpE D (.Subscript v (.BinOp l op r q) p) sc ρ σ Q X = wpE D v sc ρ σ (fun a σ₁ => wpE D (.BinOp l op r q) sc ρ σ₁ (fun b σ₂ => itemS D.G a b σ₂ Q) X) X := rfl
theorem wpE_ItemK {v : Expr} {c : Const} {k : Nat} : wpE D (.Subscript v (.Constant c k q) p) sc ρ σ Q X = wpE D v sc ρ σ (fun a σ₁ => wpE D (.Constant c k q) sc ρ σ₁ (fun b σ₂ => itemS D.G a b σ₂ Q) X) X := rfl
theorem wpE_ItemU {v e : Expr} {op : UnaryOp} : wpE D (.Subscript v (.UnaryOp op e q) p) sc ρ σ Q X = wpE D v sc ρ σ (fun a σ₁ => wpE D (.UnaryOp op e q) sc ρ σ₁ (fun b σ₂ => itemS D.G a b σ₂ Q) X) X := rfl
theorem wpE_ItemC {v f : Expr} {args : List Expr} {kws : List Keyword} : wpE D (.Subscript v (.Call f args kws q) p) sc ρ σ Q X = wpE D v sc ρ σ (fun a σ₁ => wpE D (.Call f args kws q) sc ρ σ₁ (fun b σ₂ => itemS D.G a b σ₂ Q) X) X := rfl
/-- what a comprehension does with the value of its head -/
def compK (D : Dm) (elt tgt : Expr) (ifs : List Expr) (scope : Scope) (hd : Hd) (ρ : Loc) (Q : QV) : QV := fun v σ₁ => headS D hd v σ₁ fun ok items =>
  items.length ≤ 2 ^ 20 ∧ compL (fun x ρ' σ' k => ∃ ρ'', bindS (fun y => scope.names.lookup y) tgt x ρ' = some ρ'' ∧
      wpIf D ifs (fun y => scope.names.lookup y) ρ'' σ' (fun c σ₂ => if c then wpE D elt (fun y => scope.names.lookup y) ρ'' σ₂ (fun u σ₃ => k ρ'' (some u) σ₃) (fun _ => False) else k ρ'' none σ₂))
    ok items (fun y => if scope.names.lookup y = some .free then ρ y else none) σ₁ (fun vs σ₂ => ∀ a, σ₂ a = none → Q (.ref a) (σ₂.set a (.list vs)))
theorem wpE_CompN {elt tgt : Expr} {x : Str} {ifs : List Expr} {scope : Scope} : wpE D (.ListComp elt [⟨tgt, .Name x q, ifs, 0⟩] scope p) sc ρ σ Q X =
    (True ∧ True ∧ compOk sc scope ∧ true = true ∧ wpE D (.Name x q) sc ρ σ (compK D elt tgt ifs scope .plain ρ Q) X) := by
  show (headOk D.ge sc (headOf (.Name x q)).1 ∧ tgtOk (headOf (.Name x q)).1 tgt ∧ _) = _
  rfl
theorem wpE_Comp1 {elt tgt e : Expr} {x : Str} {ifs : List Expr} {scope : Scope} : wpE D (.ListComp elt [⟨tgt, .Call (.Name x q) [e] [] q', ifs, 0⟩] scope p) sc ρ σ Q X =
    (headOk D.ge sc (headOf (.Call (.Name x q) [e] [] q')).1 ∧ tgtOk (headOf (.Call (.Name x q) [e] [] q')).1 tgt ∧ compOk sc scope ∧ true = true ∧
      if isHead x then wpE D e sc ρ σ (compK D elt tgt ifs scope (headOf (.Call (.Name x q) [e] [] q')).1 ρ Q) X else wpE D (.Call (.Name x q) [e] [] q') sc ρ σ (compK D elt tgt ifs scope (headOf (.Call (.Name x q) [e] [] q')).1 ρ Q) X) := rfl
theorem wpE_CompG {elt tgt it : Expr} {ifs : List Expr} {scope : Scope} : wpE D (.ListComp elt [⟨tgt, it, ifs, 0⟩] scope p) sc ρ σ Q X =
    (headOk D.ge sc (headOf it).1 ∧ tgtOk (headOf it).1 tgt ∧ compOk sc scope ∧ notSet it = true ∧
      (match it with
       | .Call (.Name n _) [e] [] _ => if isHead n then wpE D e sc ρ σ (compK D elt tgt ifs scope (headOf it).1 ρ Q) X else wpE D it sc ρ σ (compK D elt tgt ifs scope (headOf it).1 ρ Q) X
       | _ => wpE D it sc ρ σ (compK D elt tgt ifs scope (headOf it).1 ρ Q) X)) := by
  cases it
  case Call f args kws q =>
    cases f
    case Name n pn =>
      match args, kws with
      | [], _ => rfl
      | [e], [] => rfl
      | [e], _ :: _ => rfl
      | _ :: _ :: _, _ => rfl
    all_goals rfl
  all_goals rfl
theorem comp_async {elt tgt it : Expr} {ifs : List Expr} {scope : Scope} {a : Int} (h : a ≠ 0) : ¬ wpE D (.ListComp elt [⟨tgt, it, ifs, a⟩] scope p) sc ρ σ Q X := fun w => by
  match a, h, w with
  | .ofNat 0, h, _ => exact h rfl
  | .ofNat (n + 1), _, w => exact w
  | .negSucc n, _, w => exact w
theorem comp_more {elt : Expr} {c d : Comprehension} {cs : List Comprehension} {scope : Scope} : ¬ wpE D (.ListComp elt (c :: d :: cs) scope p) sc ρ σ Q X := fun w => by
  obtain ⟨tgt, it, ifs, a⟩ := c
  match a, w with
  | .ofNat 0, w => exact w
  | .ofNat (n + 1), w => exact w
  | .negSucc n, w => exact w
theorem call_kw {f : Expr} {args : List Expr} {k : Keyword} {ks : List Keyword} : ¬ wpE D (.Call f args (k :: ks) p) sc ρ σ Q X := fun w => by
  cases f <;> exact w
theorem wpL_nil {K : List V → Store → Prop} : wpL D [] sc ρ σ K X = K [] σ := rfl
theorem wpL_cons {e : Expr} {es : List Expr} {K : List V → Store → Prop} : wpL D (e :: es) sc ρ σ K X = wpE D e sc ρ σ (fun v σ₁ => wpL D es sc ρ σ₁ (fun vs σ₂ => K (v :: vs) σ₂) X) X := rfl
theorem wpO_none : wpO D none sc ρ σ Q X = Q .none σ := rfl
theorem wpO_some {e : Expr} : wpO D (some e) sc ρ σ Q X = wpE D e sc ρ σ Q X := rfl
theorem wpB_one {op : BoolOp} {e : Expr} : wpB D op [e] sc ρ σ Q X = wpE D e sc ρ σ (fun v σ₁ => ∃ b, v = .bool b ∧ Q v σ₁) X := rfl
theorem wpB_cons {op : BoolOp} {e f : Expr} {es : List Expr} : wpB D op (e :: f :: es) sc ρ σ Q X = wpE D e sc ρ σ (fun v σ₁ => ∃ b, v = .bool b ∧ if b = (op == .Or) then Q v σ₁ else wpB D op (f :: es) sc ρ σ₁ Q X) X := rfl
theorem wpIf_nil {K : Bool → Store → Prop} : wpIf D [] sc ρ σ K = K true σ := rfl
theorem wpIf_cons {e : Expr} {es : List Expr} {K : Bool → Store → Prop} : wpIf D (e :: es) sc ρ σ K = wpE D e sc ρ σ (fun v σ₁ => ∃ b, v = .bool b ∧ if b then wpIf D es sc ρ σ₁ K else K false σ₁) (fun _ => False) := rfl
end
section
variable {D : Dm} {sc : Sc} {ρ : Loc} {σ : Store} {Q : QS} {X : XP} {p q q' : Pos}
theorem wpS_Return {e : Option Expr} : wpS D (.Return e p) sc ρ σ Q X = wpO D e sc ρ σ (fun v σ₁ => Q (.ret v) ρ σ₁) X := rfl
theorem wpS_Pass : wpS D (.Pass p) sc ρ σ Q X = Q .next ρ σ := rfl
theorem wpS_Expr {e : Expr} : wpS D (.Expr e p) sc ρ σ Q X = (notCompB e = true ∧ wpE D e sc ρ σ (fun v σ₁ => notRef v ∧ Q .next ρ σ₁) X) := rfl
theorem wpS_AssignN {x : Str} {e : Expr} : wpS D (.Assign [.Name x q] e p) sc ρ σ Q X = wpE D e sc ρ σ (fun v σ₁ => ∃ ρ', bindS sc (.Name x q) v ρ = some ρ' ∧ Q .next ρ' σ₁) X := rfl
theorem wpS_AssignT {ts : List Expr} {k : Nat} {e : Expr} : wpS D (.Assign [.Tuple ts k q] e p) sc ρ σ Q X = (((ts.length ≠ 2 ∧ ts.length ≠ 3) ∨ isTup e = false) ∧ wpE D e sc ρ σ (fun v σ₁ => ∃ ρ', bindS sc (.Tuple ts k q) v ρ = some ρ' ∧ Q .next ρ' σ₁) X) := rfl
theorem wpS_Assign {ts : List Expr} {e : Expr} : wpS D (.Assign ts e p) sc ρ σ Q X = wpAssign D ts e sc ρ σ Q X := rfl
theorem wpS_If {t : Expr} {a b : List Stmt} : wpS D (.If t a b p) sc ρ σ Q X = wpE D t sc ρ σ (fun c σ₁ => ∃ k, c = .bool k ∧ if k then wpSs D a sc ρ σ₁ Q X else wpSs D b sc ρ σ₁ Q X) X := rfl
theorem wpS_While {t : Expr} {body o : List Stmt} : wpS D (.While t body o p) sc ρ σ Q X = (o = [] ∧ ∃ n, whileL (fun ρ' σ' K => wpE D t sc ρ' σ' (fun c σ₁ => ∃ k, c = .bool k ∧ K k σ₁) X) (fun ρ' σ' K => wpSs D body sc ρ' σ' K X) n ρ σ Q) := rfl
theorem wpS_For {tgt it : Expr} {body o : List Stmt} : wpS D (.For tgt it body o p) sc ρ σ Q X = (o = [] ∧ tgtOk (headOf it).1 tgt ∧ wpH D it sc ρ σ (fun v σ₁ => headS D (headOf it).1 v σ₁ fun ok items =>
      forL (fun x ρ' σ' K => ∃ ρ'', bindS sc tgt x ρ' = some ρ'' ∧ wpSs D body sc ρ'' σ' K X) ok items ρ σ₁ Q) X) := rfl
theorem wpS_Raise {e c : Option Expr} : wpS D (.Raise e c p) sc ρ σ Q X = (c.isNone = true ∧ ∃ n, raiseForm e = some n ∧ excS D n ∧ sc n = some .globalImplicit ∧ X σ) := rfl
theorem wpS_Try {b : List Stmt} {h : List ExceptHandler} {o f : List Stmt} : wpS D (.Try b h o f p) sc ρ σ Q X = wpTry D b h o f sc ρ σ Q := rfl
theorem wpSs_nil : wpSs D [] sc ρ σ Q X = Q .next ρ σ := rfl
theorem wpSs_cons {st : Stmt} {r : List Stmt} : wpSs D (st :: r) sc ρ σ Q X = wpS D st sc ρ σ (fun f ρ' σ' => match f with | .next => wpSs D r sc ρ' σ' Q X | f => Q f ρ' σ') X := rfl
end
section
variable {p q q' ap : Pos} {x n : Str} {r : List Expr} {e l f : Expr} {args : List Expr} {kws : List Keyword} {c : Const} {k : Nat} {op : Operator} {i : Int} {b : Bool} {K : V → Prop}
theorem notSet_N : notSet (.Name x p) = true := rfl
theorem notSet_C : notSet (.Call f args kws p) = true := rfl
theorem notSet_K : notSet (.Constant c k p) = true := rfl
theorem notSet_S : notSet (.Subscript e l p) = true := rfl
theorem notSet_B : notSet (.BinOp e op l p) = true := rfl
theorem notSet_L : notSet (.List r p) = true := rfl
theorem notCompB_C : notCompB (.Call f args kws p) = true := rfl
theorem plain_nil : plainArgs [] = true := rfl
theorem plain_N : plainArgs (.Name x p :: r) = plainArgs r := rfl
theorem plain_C : plainArgs (.Call f args kws p :: r) = plainArgs r := rfl
theorem plain_K : plainArgs (.Constant c k p :: r) = plainArgs r := rfl
theorem plain_S : plainArgs (.Subscript e l p :: r) = plainArgs r := rfl
theorem plain_B : plainArgs (.BinOp e op l p :: r) = plainArgs r := rfl
theorem plain_L {g : List Comprehension} {sc : Scope} : plainArgs (.ListComp e g sc p :: r) = plainArgs r := rfl
theorem meth_N : methOk (.Name x p) ap q args = ((ap.endLine == q.line) && decide (args.length < 30)) := rfl
theorem meth_K : methOk (.Constant c k p) ap q args = ((ap.endLine == q.line) && decide (args.length < 30)) := rfl
theorem const_int : constS (.int i) K = K (.int i) := rfl
theorem const_str : constS (.str x) K = K (.str x) := rfl
theorem const_bool : constS (.bool b) K = K (.bool b) := rfl
theorem const_none : constS .none K = K .none := rfl
theorem raise_lit : raiseForm (some (.Call (.Name n p) [.Constant (.str x) k q] [] q')) = some n := rfl
end
end Mine

set_option linter.unusedVariables false
set_option autoImplicit false
namespace Mine
open PySem PySem.Calls PyProof.Rows

/-- an address that nobody speaks of -/
structure Away (C : Cx) (F : Fm) (σ : Store) (b : Addr) : Prop where
  s0 : C.s0.heap.get? b = none
  st : σ b = none
  own : b ∉ F.own
  fr : b ∉ frs F.fs
  cells : ∀ x, F.env.cells.lookup x ≠ some b
  he : F.he.get? b = none
  ne2 : b ≠ cStatics

theorem Inv.away {C : Cx} {F : Fm} {ρ : Loc} {σ : Store} {s : Shared} {b : Addr} (I : Inv C F ρ σ s) (hz : s.heap.objs.size ≤ b) : Away C F σ b := by
  have hn : ∀ o, s.heap.get? b ≠ some o := fun o q => absurd (Heap.lt_size q) (Nat.not_lt.mpr hz)
  refine ⟨?_, ?_, ?_, ?_, ?_, ?_, ?_⟩
  · cases q : C.s0.heap.get? b with
    | none => rfl
    | some o => exact absurd (I.keep0 b o q) (hn o)
  · cases q : σ b with
    | none => rfl
    | some c => obtain ⟨o, ho, _⟩ := (I.sto b c q).1.obj; exact absurd ho (hn o)
  · intro h; obtain ⟨o, ho, _⟩ := I.ownObj b h; exact hn o ho
  · intro h; obtain ⟨m, hm⟩ := I.frNs b h; obtain ⟨o, ho, _⟩ := Ns.notTup hm; exact hn o ho
  · intro x hx; obtain ⟨u, ⟨o, ho, _⟩, _⟩ := I.cel x b hx; exact hn o ho
  · cases q : F.he.get? b with
    | none => rfl
    | some o =>
      have := I.dom b (by rw [q]; rfl)
      cases r : s.heap.get? b with
      | none => rw [r] at this; cases this
      | some o' => exact absurd r (hn o')
  · rintro rfl
    have := I.st2
    cases r : s.heap.get? cStatics with
    | none => rw [r] at this; cases this
    | some o' => exact absurd r (hn o')

/-- an exception has come from below -/
def Flown (C : Cx) (F : Fm) (ρ : Loc) (σ : Store) (e : Addr) (s : Shared) : Prop :=
  ∃ hr t cls, C.G.mg "BadWord" = some cls ∧ Inv C F ρ σ { s with heap := hr, toks := t } ∧
    ∃ (B : Heap) (a0 : Value) (S : List Addr), Heap.FlyingW B F.fs e cls a0 s.heap ∧ (∀ b o, b ∉ S → hr.get? b = some o → B.get? b = some o) ∧ hr.UpToSlots s.heap ∧
      ∀ b ∈ S, (b ∈ frs F.fs ∨ Away C F σ b) ∧ ∀ o, hr.get? b = some o → ¬ TupO o
/-- an exception has just been made here -/
def Made (C : Cx) (F : Fm) (ρ : Loc) (σ : Store) (e : Addr) (s : Shared) : Prop :=
  ∃ hr t cls, C.G.mg "BadWord" = some cls ∧ Inv C F ρ σ { s with heap := hr, toks := t } ∧ ∃ args, Heap.MadeExcOf hr s.heap e cls args
/-- the frame is that of a call -/
def FrTop (F : Fm) : Prop := ∃ outer, F.fs = F.env :: outer ∧ F.env.frame = some F.env.locals

def EOk (C : Cx) (F : Fm) (ρ : Loc) (X : XP) (E : Value → Shared → Prop) : Prop := ∀ e σ' s', Flown C F ρ σ' e s' → X σ' → E (.ref e) s'

def EOkS (C : Cx) (F : Fm) (ρ : Loc) (X : XP) (E : Value → Shared → Prop) : Prop := EOk C F ρ X E ∧ ∀ e σ' s', Made C F ρ σ' e s' → X σ' → E (.ref e) s'

def FnOk (C : Cx) (f : Str) (t : FnT) (n : Nat) : Prop :=
  ∃ a o fd, C.G.mg f = some (.ref a) ∧ C.s0.heap.get? a = some o ∧ o.data = .func fd ∧
    ∀ (F : Fm) (ρ : Loc) (σ : Store) (s : Shared) (args : List V) (vals : List Value) (Q : QV) (X : XP) (E : Value → Shared → Prop),
    FmOk C F n → Inv C F ρ σ s → RelL C.G s.heap args vals → t args σ Q X → EOk C F ρ X E → wpAny C.M F.A (call (.ref a) vals []) (Ok C F ρ σ s Q) E s

structure DmOk (C : Cx) (D : Dm) : Prop where
  G : D.G = C.G
  w : D.w = C.w
  ge : D.ge = C.ge
  fn : ∀ f r t, D.T f = some (r, t) → r ≤ D.lvl → FnOk C f t r

theorem Room.mono {A : Around} {n m : Nat} (h : Room A n) (k : m ≤ n) : Room A m := ⟨by have := h.1; omega, by have := h.2; omega⟩
theorem FmOk.mono {C : Cx} {F : Fm} {n m : Nat} (h : FmOk C F n) (k : m ≤ n) : FmOk C F m := { h with room := h.room.mono k }

def ScOk (sc : Sc) (env : Env) : Prop := ∀ x, sc x = env.kindOf x ∨ (sc x = some .free ∧ env.kindOf x = some .cell)
theorem ScOk.refl (env : Env) : ScOk env.kindOf env := fun _ => .inl rfl

def SndE (C : Cx) (D : Dm) (e : Expr) : Prop := ∀ (F : Fm) (sc : Sc) (ρ : Loc) (σ : Store) (Q : QV) (X : XP) (s : Shared) (E : Value → Shared → Prop),
  FmOk C F D.lvl → ScOk sc F.env → wpE D e sc ρ σ Q X → Inv C F ρ σ s → EOk C F ρ X E → wpAny C.M F.A (eval e F.env) (Ok C F ρ σ s Q) E s
def OkL (C : Cx) (F : Fm) (ρ : Loc) (σ : Store) (s : Shared) (Q : List V → Store → Prop) (v : List Value) (s' : Shared) : Prop :=
  ∃ x σ', Inv C F ρ σ' s' ∧ Stp F σ σ' s.heap s'.heap ∧ RelL C.G s'.heap x v ∧ Q x σ'
def OkB (C : Cx) (F : Fm) (ρ : Loc) (σ : Store) (s : Shared) (K : Bool → Store → Prop) (b : Bool) (s' : Shared) : Prop :=
  ∃ σ', Inv C F ρ σ' s' ∧ Stp F σ σ' s.heap s'.heap ∧ K b σ'
/-- an expression as a test -/
def SndT (C : Cx) (D : Dm) (e : Expr) : Prop := ∀ (F : Fm) (sc : Sc) (ρ : Loc) (σ : Store) (Q : QV) (K : Bool → Store → Prop) (X : XP) (s : Shared) (E : Value → Shared → Prop),
  FmOk C F D.lvl → ScOk sc F.env → wpE D e sc ρ σ Q X → (∀ v σ₁, Q v σ₁ → ∃ b, v = .bool b ∧ K b σ₁) → Inv C F ρ σ s → EOk C F ρ X E →
  wpAny C.M F.A (isTrue e F.env (eval e F.env)) (OkB C F ρ σ s K) E s
def SndL (C : Cx) (D : Dm) (es : List Expr) : Prop := ∀ (F : Fm) (sc : Sc) (ρ : Loc) (σ : Store) (Q : List V → Store → Prop) (X : XP) (s : Shared) (E : Value → Shared → Prop) (pos : Pos),
  FmOk C F D.lvl → ScOk sc F.env → wpL D es sc ρ σ Q X → Inv C F ρ σ s → EOk C F ρ X E → wpAny C.M F.A (spliced (backTo pos (starEach es F.env))) (OkL C F ρ σ s Q) E s

section
variable {C : Cx} {D : Dm} (hC : CxOk C) (hD : DmOk C D)

theorem sndConst (c : Const) (k : Nat) (p : Pos) : SndE C D (.Constant c k p) := fun F sc ρ σ Q X s E hF hs h I hE => by
  rw [wpE_Constant] at h; unfold constS at h
  cases c with
  | none => exact fun _ _ _ => Ok.here I (by simp [Rel]) h
  | bool b => exact fun _ _ _ => Ok.here I (by simp [Rel]) h
  | int i => exact wpAny_Constant_int (Ok.tok I (by simp [Rel]) h)
  | str x => exact Constant_str (Ok.tok I (by simp [Rel]) h)
  | _ => exact h.elim

include hC hD in
theorem nameS_ok {A : Around} (F : Fm) (sc : Sc) (ρ : Loc) (σ : Store) (s : Shared) {x : Str} {v : V} {p : Pos} {E : Value → Shared → Prop} {Q : Value → Shared → Prop} (hF : FmOk C F D.lvl) (hs : ScOk sc F.env) (I : Inv C F ρ σ s)
    (h : nameS D.ge sc ρ x = some v) (k : ∀ u, Rel C.G s.heap v u → Q u s) :
    wpAny C.M A (eval (.Name x p) F.env) Q E s := by
  unfold nameS at h
  have hne : F.env.kindOf x ≠ none := by
    intro q
    rcases hs x with q' | ⟨_, q'⟩
    · rw [q] at q'; rw [q'] at h; cases h
    · rw [q] at q'; cases q'
  have hdbg : (x == ("__debug__" : Str)) = false := beq_false_of_ne fun q => hne (q ▸ hF.noDbg)
  have hcd : (x == ("__classdict__" : Str)) = false := beq_false_of_ne fun q => hne (q ▸ hF.noCd)
  have cellCase : ∀ {kd}, F.env.kindOf x = some kd → (kd = .cell ∨ kd = .free) → ρ x = some v → wpAny C.M A (eval (.Name x p) F.env) Q E s := by
    intro kd hk hor hv
    rcases hor with rfl | rfl
    · obtain ⟨c, hc⟩ := hF.cellKind x hk
      obtain ⟨u, h1, h2⟩ := I.cel x c hc
      obtain ⟨u', rfl, hr⟩ := h2 v hv (.inl hk)
      exact wpAny_Name (wpAny_loadName_cell hF.kind hk hc h1 (k u' hr)) hdbg
    · obtain ⟨c, hc⟩ := hF.freeKind x hk
      obtain ⟨u, h1, h2⟩ := I.cel x c hc
      obtain ⟨u', rfl, hr⟩ := h2 v hv (.inr hk)
      exact wpAny_Name (wpAny_loadName_free hF.kind hk hc h1 (k u' hr) hcd) hdbg
  split at h
  · rename_i e
    rcases hs x with q | ⟨q, _⟩
    · rw [e] at q
      obtain ⟨m, hm, hr⟩ := I.loc
      obtain ⟨u, h1, h2⟩ := hr x v h q.symm
      exact wpAny_Name (wpAny_loadName_local hF.kind q.symm hm h1 (k u h2)) hdbg
    · rw [e] at q; cases q
  · rename_i e
    rcases hs x with q | ⟨q, _⟩
    · rw [e] at q; exact cellCase q.symm (.inl rfl) h
    · rw [e] at q; cases q
  · rename_i e
    rcases hs x with q | ⟨_, q⟩
    · rw [e] at q; exact cellCase q.symm (.inr rfl) h
    · exact cellCase q (.inl rfl) h
  · rename_i e
    have hk : F.env.kindOf x = some .globalImplicit := by
      rcases hs x with q | ⟨q, _⟩
      · rw [e] at q; exact q.symm
      · rw [e] at q; cases q
    rw [hD.ge] at h
    have hg : s.heap.Ns F.env.globals C.G.mg := by rw [hF.globals]; exact hC.g.keeps I.keep0
    have hb : s.heap.Ns F.env.builtins C.mb := by rw [hF.builtins]; exact hC.b.keeps I.keep0
    rcases hC.glob x v h with ⟨u, h1, h2⟩ | ⟨h0, u, h1, h2⟩
    · exact Name_function_global hF.kind hk (loadGlobal_global hg h1 (k u (h2 _))) hdbg
    · exact Name_function_global hF.kind hk (loadGlobal_builtin hg h0 hb h1 (k u (h2 _))) hdbg
  · cases h

theorem bindE {e : Expr} {F : Fm} {sc : Sc} {ρ : Loc} {σ : Store} {Q1 : QV} {X : XP} {s : Shared} {E : Value → Shared → Prop} {R : Value → Shared → Prop} (h1 : SndE C D e) (hF : FmOk C F D.lvl) (hs : ScOk sc F.env)
    (h : wpE D e sc ρ σ Q1 X) (I : Inv C F ρ σ s) (hE : EOk C F ρ X E) (k : ∀ v s1 x σ1, Inv C F ρ σ1 s1 → Stp F σ σ1 s.heap s1.heap → Rel C.G s1.heap x v → Q1 x σ1 → R v s1) : wpAny C.M F.A (eval e F.env) R E s :=
  wpAny_mono (h1 F sc ρ σ Q1 X s E hF hs h I hE) (fun v s1 ⟨x, σ1, I1, S1, r1, q1⟩ => k v s1 x σ1 I1 S1 r1 q1) fun _ _ x => x

include hC hD in
theorem sndName (x : Str) (p : Pos) : SndE C D (.Name x p) := fun F sc ρ σ Q X s E hF hs h I hE => by
  rw [wpE_Name] at h
  obtain ⟨v, h1, h2⟩ := h
  exact nameS_ok hC hD F sc ρ σ s hF hs I h1 fun u r => Ok.here I r h2

theorem sndBin {l r : Expr} {op : Operator} {p : Pos} (hl : SndE C D l) (hr : SndE C D r) : SndE C D (.BinOp l op r p) := fun F sc ρ σ Q X s E hF hs h I hE => by
  rw [wpE_BinOp] at h
  refine wpAny_BinOp (bindE hl hF hs h I hE fun a s1 x σ1 I1 S1 r1 q1 => bindE hr hF hs q1 I1 hE fun b s2 y σ2 I2 S2 r2 q2 => ?_)
  exact wpAny_mono (binS_ok I2 (r1.mono S2.tk) r2 q2) (fun v s3 o => o.trans (S1.trans S2)) fun _ _ x => x

theorem sndUn {e : Expr} {op : UnaryOp} {p : Pos} (he : SndE C D e) : SndE C D (.UnaryOp op e p) := fun F sc ρ σ Q X s E hF hs h I hE => by
  rw [wpE_UnaryOp] at h
  refine wpAny_UnaryOp (bindE he hF hs h I hE fun a s1 x σ1 I1 S1 r1 q1 => ?_)
  unfold unS at q1
  split at q1
  · simp only [Rel] at r1; subst r1
    exact fun _ _ _ => Ok.trans S1 (Ok.here I1 (by simp [Rel]) q1)
  · simp only [Rel] at r1; obtain ⟨t, rfl⟩ := r1
    exact P.neg_int (Ok.trans S1 (Ok.tok I1 (by simp [Rel]) q1))
  · exact q1.elim

theorem OkB.trans {F : Fm} {ρ : Loc} {σ σ1 : Store} {s s1 s' : Shared} {K : Bool → Store → Prop} {b : Bool} (S : Stp F σ σ1 s.heap s1.heap) (h : OkB C F ρ σ1 s1 K b s') : OkB C F ρ σ s K b s' :=
  let ⟨σ', I, S', k⟩ := h; ⟨σ', I, S.trans S', k⟩

/-- a test that is no not, and, or, if, comparison -/
theorem sndT_value {e : Expr} (he : SndE C D e) (hw : ∀ env whole, isTrue e env whole = (do let v ← whole; standAt e.pos; holding [v] (truthy v))) : SndT C D e := fun F sc ρ σ Q K X s E hF hs h hQ I hE => by
  refine wpAny_isTrue_value (bindE he hF hs h I hE fun v s1 x σ1 I1 S1 r1 q1 => ?_) (hw _ _)
  obtain ⟨b, rfl, k⟩ := hQ _ _ q1
  simp only [Rel] at r1; subst r1
  exact wpAny_truthy_bool ⟨σ1, I1, S1, k⟩

theorem sndT_not {e : Expr} {p : Pos} (he : SndT C D e) : SndT C D (.UnaryOp .Not e p) := fun F sc ρ σ Q K X s E hF hs h hQ I hE => by
  rw [wpE_UnaryOp] at h
  refine wpAny_isTrue_Not (wpAny_mono (he F sc ρ σ _ (fun b σ1 => K (!b) σ1) X s E hF hs h (fun v σ1 q => ?_) I hE) (fun b s1 o => o) fun _ _ x => x)
  cases v <;> simp only [unS] at q
  obtain ⟨b, e, k⟩ := hQ _ _ q
  cases e
  exact ⟨_, rfl, k⟩

theorem sndT_cmp {l r : Expr} {op : CmpOp} {p : Pos} (he : SndE C D (.Compare l [op] [r] p)) (hl : SndE C D l) (hr : SndE C D r)
    (hc : ∀ {F : Fm} {ρ : Loc} {σ : Store} {s : Shared} {a b : V} {va vb : Value} {Q : QV} {E : Value → Shared → Prop}, FmOk C F D.lvl → Inv C F ρ σ s → Rel C.G s.heap a va → Rel C.G s.heap b vb → cmpS op a b σ Q → wpAny C.M F.A (compareOp op va vb) (Ok C F ρ σ s Q) E s) :
    SndT C D (.Compare l [op] [r] p) := fun F sc ρ σ Q K X s E hF hs h hQ I hE => by
  rw [wpE_Compare] at h
  refine wpAny_isTrue_Compare1 (bindE hl hF hs h.2 I hE fun a s1 x σ1 I1 S1 r1 q1 => bindE hr hF hs q1 I1 hE fun b s2 y σ2 I2 S2 r2 q2 => ?_) (by cases r <;> first | rfl | exact absurd h.1 (by simp [notSet]))
  refine wpAny_mono (hc hF I2 (r1.mono S2.tk) r2 q2) (fun v s3 o => ?_) fun _ _ x => x
  obtain ⟨z, σ3, I3, S3, r3, q3⟩ := o
  obtain ⟨b, rfl, k⟩ := hQ _ _ q3
  simp only [Rel] at r3; subst r3
  exact wpAny_truthy_bool ⟨σ3, I3, (S1.trans S2).trans S3, k⟩

theorem sndT_if {t a b : Expr} {p : Pos} (ht : SndT C D t) (ha : SndT C D a) (hb : SndT C D b) : SndT C D (.IfExp t a b p) := fun F sc ρ σ Q K X s E hF hs h hQ I hE => by
  rw [wpE_IfExp] at h
  refine isTrue_IfExp (wpAny_mono (ht F sc ρ σ _ (fun k σ1 => if k = true then wpE D a sc ρ σ1 Q X else wpE D b sc ρ σ1 Q X) X s E hF hs h (fun v σ1 q => q) I hE) (fun c s1 o => ?_) fun _ _ x => x)
  obtain ⟨σ1, I1, S1, k⟩ := o
  cases c with
  | true => exact wpAny_mono (ha F sc ρ σ1 Q K X s1 E hF hs k hQ I1 hE) (fun _ _ o => o.trans S1) fun _ _ x => x
  | false => exact wpAny_mono (hb F sc ρ σ1 Q K X s1 E hF hs k hQ I1 hE) (fun _ _ o => o.trans S1) fun _ _ x => x

theorem sndIf {t a b : Expr} {p : Pos} (ht : SndT C D t) (ha : SndE C D a) (hb : SndE C D b) : SndE C D (.IfExp t a b p) := fun F sc ρ σ Q X s E hF hs h I hE => by
  rw [wpE_IfExp] at h
  refine wpAny_IfExp (wpAny_mono (ht F sc ρ σ _ (fun k σ1 => if k = true then wpE D a sc ρ σ1 Q X else wpE D b sc ρ σ1 Q X) X s E hF hs h (fun v σ1 q => q) I hE) (fun c s1 o => ?_) fun _ _ x => x)
  obtain ⟨σ1, I1, S1, k⟩ := o
  cases c with
  | true => exact wpAny_mono (ha F sc ρ σ1 Q X s1 E hF hs k I1 hE) (fun _ _ o => o.trans S1) fun _ _ x => x
  | false => exact wpAny_mono (hb F sc ρ σ1 Q X s1 E hF hs k I1 hE) (fun _ _ o => o.trans S1) fun _ _ x => x

/-- and, or -/
def SndB (C : Cx) (D : Dm) (es : List Expr) : Prop := ∀ (op : BoolOp) (F : Fm) (sc : Sc) (ρ : Loc) (σ : Store) (Q : QV) (X : XP) (s : Shared) (E : Value → Shared → Prop) (p : Pos),
  FmOk C F D.lvl → ScOk sc F.env → wpB D op es sc ρ σ Q X → Inv C F ρ σ s → EOk C F ρ X E →
  wpAny C.M F.A (boolOp p op (evalEach es F.env)) (Ok C F ρ σ s Q) E s ∧
  ∀ K : Bool → Store → Prop, (∀ v σ₁, Q v σ₁ → ∃ b, v = .bool b ∧ K b σ₁) → wpAny C.M F.A (allTrue op es F.env) (OkB C F ρ σ s K) E s
theorem sndB_nil : SndB C D [] := fun op F sc ρ σ Q X s E p hF hs h I hE => (show False from h).elim
theorem allTrue_cons (op : BoolOp) (x : Expr) (rest : List Expr) (env : Env) : allTrue op (x :: rest) env = (do
    match op, ← isTrue x env (eval x env) with
    | .And, false => pure false
    | .Or, true => pure true
    | _, _ => allTrue op rest env) := by rw [allTrue]; rfl
theorem sndB_cons {e : Expr} {es : List Expr} (he : SndE C D e) (het : SndT C D e) (hes : SndB C D es) : SndB C D (e :: es) := fun op F sc ρ σ Q X s E p hF hs h I hE => by
  cases es with
  | nil =>
    rw [wpB_one] at h
    refine ⟨bindE he hF hs h I hE fun v s1 x σ1 I1 S1 r1 q1 => ?_, fun K hK => ?_⟩
    · obtain ⟨b, rfl, q⟩ := q1; exact ⟨_, σ1, I1, S1, r1, q⟩
    · rw [allTrue_cons]
      refine wpAny_bind (wpAny_mono (het F sc ρ σ _ K X s E hF hs h (fun v σ1 q => ?_) I hE) (fun b s1 o => ?_) fun _ _ x => x)
      · obtain ⟨b, rfl, q⟩ := q; exact hK _ _ q
      · cases op <;> cases b <;> exact wpAny_pure o
  | cons e2 es2 =>
    rw [wpB_cons] at h
    constructor
    · show wpAny _ _ (eval e F.env >>= fun v => standAt p >>= fun _ => holding [v] (truthy v) >>= fun t => _) _ _ s
      refine wpAny_bind (bindE he hF hs h I hE fun v s1 x σ1 I1 S1 r1 q1 => ?_)
      obtain ⟨b, rfl, q⟩ := q1
      simp only [Rel] at r1; subst r1
      refine wpAny_bind (wpAny_standAt (wpAny_bind (wpAny_holding (wpAny_truthy_bool ?_))))
      cases op <;> cases b
      · exact wpAny_pure ⟨.bool false, σ1, I1, S1, by simp [Rel], by simpa using q⟩
      · exact wpAny_mono (hes .And F sc ρ σ1 Q X s1 E p hF hs (by simpa using q) I1 hE).1 (fun _ _ o => o.trans S1) fun _ _ x => x
      · exact wpAny_mono (hes .Or F sc ρ σ1 Q X s1 E p hF hs (by simpa using q) I1 hE).1 (fun _ _ o => o.trans S1) fun _ _ x => x
      · exact wpAny_pure ⟨.bool true, σ1, I1, S1, by simp [Rel], by simpa using q⟩
    · intro K hK
      rw [allTrue_cons]
      refine wpAny_bind (wpAny_mono (het F sc ρ σ _ (fun b σ1 => if b = (op == .Or) then Q (.bool b) σ1 else wpB D op (e2 :: es2) sc ρ σ1 Q X) X s E hF hs h (fun v σ1 q => ?_) I hE) (fun b s1 o => ?_) fun _ _ x => x)
      · obtain ⟨b, rfl, q⟩ := q; exact ⟨b, rfl, q⟩
      · obtain ⟨σ1, I1, S1, k⟩ := o
        cases op <;> cases b
        · obtain ⟨b, e, q⟩ := hK _ _ (by simpa using k); cases e; exact wpAny_pure ⟨σ1, I1, S1, q⟩
        · exact wpAny_mono ((hes .And F sc ρ σ1 Q X s1 E p hF hs (by simpa using k) I1 hE).2 K hK) (fun _ _ o => o.trans S1) fun _ _ x => x
        · exact wpAny_mono ((hes .Or F sc ρ σ1 Q X s1 E p hF hs (by simpa using k) I1 hE).2 K hK) (fun _ _ o => o.trans S1) fun _ _ x => x
        · obtain ⟨b, e, q⟩ := hK _ _ (by simpa using k); cases e; exact wpAny_pure ⟨σ1, I1, S1, q⟩
theorem sndBool {op : BoolOp} {es : List Expr} {p : Pos} (h : SndB C D es) : SndE C D (.BoolOp op es p) := fun F sc ρ σ Q X s E hF hs hw I hE => by
  rw [wpE_BoolOp] at hw
  exact (h op F sc ρ σ Q X s E p hF hs hw I hE).1
theorem sndT_bool {op : BoolOp} {es : List Expr} {p : Pos} (h : SndB C D es) : SndT C D (.BoolOp op es p) := fun F sc ρ σ Q K X s E hF hs hw hQ I hE => by
  rw [wpE_BoolOp] at hw
  exact wpAny_isTrue_BoolOp ((h op F sc ρ σ Q X s E p hF hs hw I hE).2 K hQ)

/-! displays -/
theorem sndL_nil : SndL C D [] := fun F sc ρ σ Q X s E p hF hs h I hE => by
  rw [wpL_nil] at h
  exact spliced_nil ⟨[], σ, I, Stp.refl _ _ _, RelL.nil, h⟩
theorem sndL_cons {e : Expr} {es : List Expr} (he : SndE C D e) (hes : SndL C D es) (hns : ∀ v p, e ≠ .Starred v p) : SndL C D (e :: es) := fun F sc ρ σ Q X s E p hF hs h I hE => by
  rw [wpL_cons] at h
  have e1 : backTo p (starEach (e :: es) F.env) = (false, eval e F.env) :: backTo p (starEach es F.env) := by
    cases e <;> first | rfl | exact absurd rfl (hns _ _)
  rw [e1]
  refine spliced_cons (bindE he hF hs h I hE fun v s1 x σ1 I1 S1 r1 q1 => ?_)
  refine wpAny_mono (hes F sc ρ σ1 _ X s1 E p hF hs q1 I1 hE) (fun vs s2 o => ?_) fun _ _ x => x
  obtain ⟨xs, σ2, I2, S2, r2, q2⟩ := o
  exact ⟨x :: xs, σ2, I2, S1.trans S2, RelL.cons (r1.mono S2.tk) r2, q2⟩
theorem sndTuple {es : List Expr} {k : Nat} {p : Pos} (h : SndL C D es) : SndE C D (.Tuple es k p) := fun F sc ρ σ Q X s E hF hs hw I hE => by
  rw [wpE_Tuple] at hw
  refine Tuple_ (wpAny_mono (h F sc ρ σ _ X s E p hF hs hw I hE) (fun vs s1 o => ?_) fun _ _ x => x)
  obtain ⟨xs, σ1, I1, S1, r1, hl, q1⟩ := o
  refine wpAny_newObj_type ?_ (by show vs.toArray.size ≤ sizeLine; rw [List.size_toArray, r1.length]; exact hl)
  refine Ok.trans S1 ⟨.tup xs, σ1, I1.ext fun b o e => Heap.get?_push_of_some _ e, Stp.ext fun b o e => Heap.get?_push_of_some _ e, ?_, q1⟩
  unfold Rel
  exact ⟨_, _, vs.toArray, rfl, Heap.get?_push_size _ rfl, ⟨rfl, _, rfl⟩, by simpa using r1.mono (TK.push _ _)⟩
theorem none_at (h : Heap) : h.get? h.objs.size = none := by
  cases q : h.get? h.objs.size with
  | none => rfl
  | some o => exact absurd (Heap.lt_size q) (Nat.lt_irrefl _)
theorem sndList {es : List Expr} {p : Pos} (h : SndL C D es) : SndE C D (.List es p) := fun F sc ρ σ Q X s E hF hs hw I hE => by
  rw [wpE_List] at hw
  refine List_ (wpAny_mono (h F sc ρ σ _ X s E p hF hs hw I hE) (fun vs s1 o => ?_) fun _ _ x => x)
  obtain ⟨xs, σ1, I1, S1, r1, hl, q1⟩ := o
  refine wpAny_newObj_type ?_ (by show vs.toArray.size ≤ sizeLine; rw [List.size_toArray, r1.length]; exact hl)
  refine Ok.trans S1 (Ok.newc I1 (fun b o e => Heap.get?_push_of_some _ e) (Nat.le_refl _) ?_ fun e => q1 _ e)
  exact ⟨vs.toArray, _, Heap.get?_push_size _ rfl, by simpa using r1.mono (TK.push _ _)⟩
end
end Mine

set_option linter.unusedVariables false
set_option autoImplicit false
namespace Mine
open PySem PySem.Calls PyProof.Rows PySem.SeqAt

theorem notIn_of {M : Model} {A : Around} {a b : Value} {Q : Value → Shared → Prop} {E : Value → Shared → Prop} {s : Shared}
    (h : wpAny M A (compareOp .In a b) (fun v s' => ∃ r, v = .bool r ∧ Q (.bool !r) s') E s) : wpAny M A (compareOp .NotIn a b) Q E s := fun Γ p hΓ => by
  have h1 := h Γ p hΓ
  have e1 : compareOp .In a b = contains b a >>= fun r => pure (Value.bool r) := rfl
  have e2 : compareOp .NotIn a b = contains b a >>= fun r => pure (Value.bool !r) := rfl
  rw [e1, Sem.wp_bind'] at h1
  rw [e2, Sem.wp_bind']
  refine Sem.wp_mono M Γ _ (fun r p' s' h2 => ?_) (fun _ _ _ x => x) p s h1
  rw [Sem.wp_pure'] at h2 ⊢
  obtain ⟨r', e, q⟩ := h2
  cases e; exact q

section
variable {C : Cx} {D : Dm} {F : Fm} {ρ : Loc} {σ : Store} {s s' : Shared} {Q : QV} {v : Value} {x : V} {n : Nat} {E : Value → Shared → Prop}

theorem ne_mods {d : Addr} {c : Cell} (I : Inv C F ρ σ s) (h : σ d = some c) : (d == sysModules) = false := by
  obtain ⟨_, _, _, _, _, k⟩ := I.sto d c h
  exact beq_false_of_ne k

theorem any_eqv {k : V} {vs : List V} (hk : pl 8 k = true) (hv : vs.all (pl 8) = true) : ((toPys vs).any fun y => PyData.eqv y (toPy k)) = memB k vs := by
  unfold memB
  induction vs with
  | nil => simp [toPys]
  | cons y ys ih =>
    rw [List.all_cons, Bool.and_eq_true] at hv
    rw [toPys, List.any_cons, ih hv.2, eqv_eqB hv.1 hk]
    unfold eqB
    by_cases e : y = k
    · simp [e]
    · have : k ≠ y := fun q => e q.symm
      by_cases m : k ∈ ys <;> simp [e, m, this]

theorem inS_ok {a b : V} {va vb : Value} {K : Bool → Prop} (I : Inv C F ρ σ s) (hr : Room F.A n) (ra : Rel C.G s.heap a va) (rb : Rel C.G s.heap b vb) (h : inS a b σ K) {Q : Value → Shared → Prop}
    (hQ : ∀ r t, K r → Q (.bool r) { s with toks := t }) : wpAny C.M F.A (compareOp .In va vb) Q E s := by
  have hu : F.A.units + 39 < cLine := roomU (k := 39) hr
  have dct : ∀ d, b = .ref d → (match σ d with | some (.list vs) => pl 8 a = true ∧ vs.all (pl 8) = true ∧ K (memB a vs) | _ => False) → wpAny C.M F.A (compareOp .In va vb) Q E s := by
    rintro d rfl hh
    simp only [Rel] at rb; subst rb
    split at hh
    · rename_i vs hd
      obtain ⟨p1, p2, p3⟩ := hh
      obtain ⟨items, hl, hrl⟩ := relList I hd
      obtain ⟨o, h1, h2, m, h3⟩ := hl
      obtain ⟨as, da⟩ := readsAll_of 8 (reads_of 8) vs _ p2 hrl
      obtain ⟨bs, db⟩ := reads_of 8 a va p1 ra
      obtain ⟨d1, c1⟩ := depthAll_le p2
      obtain ⟨l1, l2⟩ := lay_of 8 a p1
      refine in_list_reads (.list h1 h2 h3 da) db c1 l1 (by omega) ?_
      rw [any_eqv p1 p2]
      exact hQ _ s.toks p3
    · exact hh.elim
  unfold inS at h
  split at h
  · simp only [Rel] at ra rb; obtain ⟨t, rfl⟩ := ra; obtain ⟨u, rfl⟩ := rb
    exact PyProof.Rows.in_str (hQ _ s.toks h)
  · exact dct _ rfl h
  · exact h.elim

theorem isS_ok {a b : V} {va vb : Value} {r : Bool} (ra : Rel C.G s.heap a va) (rb : Rel C.G s.heap b vb) (h : isS a b = some r) : plainIs va vb = true ∧ (va == vb) = r := by
  unfold isS at h
  split at h <;> cases h <;> simp only [Rel] at ra rb
  all_goals first
    | (subst ra; subst rb; refine ⟨rfl, ?_⟩; first | rfl | (simp; done) | (rename_i x y; cases x <;> cases y <;> rfl))
    | (obtain ⟨t, rfl⟩ := ra; subst rb; exact ⟨rfl, by simp⟩)
    | (obtain ⟨a, o, xs, rfl, _⟩ := ra; subst rb; exact ⟨rfl, by simp⟩)

theorem cmpS_ok {op : CmpOp} {a b : V} {va vb : Value} (hF : FmOk C F n) (I : Inv C F ρ σ s) (ra : Rel C.G s.heap a va) (rb : Rel C.G s.heap b vb) (h : cmpS op a b σ Q) :
    wpAny C.M F.A (compareOp op va vb) (Ok C F ρ σ s Q) E s := by
  unfold cmpS at h
  cases op <;> dsimp only at h
  · obtain ⟨r, k, k1, k2⟩ := eqS_ok (E := E) I hF.room ra rb h
    exact k1 _ (Ok.here I (by simp [Rel]) k)
  · obtain ⟨r, k, k1, k2⟩ := eqS_ok (E := E) I hF.room ra rb h
    exact k2 _ (Ok.here I (by simp [Rel]) k)
  · obtain ⟨i, j, rfl, rfl, k⟩ := h
    simp only [Rel] at ra rb; obtain ⟨t, rfl⟩ := ra; obtain ⟨u, rfl⟩ := rb
    exact P.lt_int (Ok.here I (by simp [Rel]) k)
  · obtain ⟨i, j, rfl, rfl, k⟩ := h
    simp only [Rel] at ra rb; obtain ⟨t, rfl⟩ := ra; obtain ⟨u, rfl⟩ := rb
    exact P.le_int (Ok.here I (by simp [Rel]) k)
  · obtain ⟨i, j, rfl, rfl, k⟩ := h
    simp only [Rel] at ra rb; obtain ⟨t, rfl⟩ := ra; obtain ⟨u, rfl⟩ := rb
    exact P.gt_int (Ok.here I (by simp [Rel]) k)
  · obtain ⟨i, j, rfl, rfl, k⟩ := h
    simp only [Rel] at ra rb; obtain ⟨t, rfl⟩ := ra; obtain ⟨u, rfl⟩ := rb
    exact P.ge_int (Ok.here I (by simp [Rel]) k)
  · obtain ⟨r, h1, h2⟩ := h
    obtain ⟨k1, k2⟩ := isS_ok ra rb h1
    exact wpAny_is_plain k1 (by rw [k2]; exact Ok.here I (by simp [Rel]) h2)
  · obtain ⟨r, h1, h2⟩ := h
    obtain ⟨k1, k2⟩ := isS_ok ra rb h1
    exact wpAny_isNot_plain k1 (by rw [k2]; exact Ok.here I (by simp [Rel]) h2)
  · exact inS_ok I hF.room ra rb h fun r t k => Ok.tok I (by simp [Rel]) k
  · exact notIn_of (inS_ok I hF.room ra rb h fun r t k => ⟨r, rfl, Ok.tok I (by simp [Rel]) k⟩)

theorem sndCmp {l r : Expr} {op : CmpOp} {p : Pos} (hl : SndE C D l) (hr : SndE C D r) : SndE C D (.Compare l [op] [r] p) := fun F sc ρ σ Q X s E hF hs h I hE => by
  rw [wpE_Compare] at h
  refine wpAny_Compare1 (bindE hl hF hs h.2 I hE fun a s1 x σ1 I1 S1 r1 q1 => bindE hr hF hs q1 I1 hE fun b s2 y σ2 I2 S2 r2 q2 => ?_) (by cases r <;> first | rfl | exact absurd h.1 (by simp [notSet]))
  exact wpAny_mono (cmpS_ok hF I2 (r1.mono S2.tk) r2 q2) (fun v s3 o => o.trans (S1.trans S2)) fun _ _ x => x
theorem sndT_cmp' {l r : Expr} {op : CmpOp} {p : Pos} (hl : SndE C D l) (hr : SndE C D r) : SndT C D (.Compare l [op] [r] p) :=
  sndT_cmp (sndCmp hl hr) hl hr fun hF I ra rb h => cmpS_ok hF I ra rb h

/-! items -/
theorem relTup {vs : List V} {v : Value} (r : Rel C.G s.heap (.tup vs) v) : ∃ a items, v = .ref a ∧ PyProof.Rows.IsTup s.heap a items ∧ RelL C.G s.heap vs items.toList := by
  obtain ⟨a, o, xs, n, rfl, ho, hc, hd, hr⟩ := r.tup'
  exact ⟨a, xs, rfl, ⟨o, ho, hc, n, hd⟩, hr⟩

theorem item_at {vs : List V} {items : Array Value} {j : Nat} {x : V} (r : RelL C.G s.heap vs items.toList) (h : vs[j]? = some x) : ∃ u, items[j]? = some u ∧ Rel C.G s.heap x u := by
  obtain ⟨u, h1, h2⟩ := r.get h
  exact ⟨u, by simpa using h1, h2⟩

theorem seqIndex_pos {k : Int} {n j : Nat} (h0 : 0 ≤ k) (h : seqIndex? k n = some j) : j = k.toNat ∧ k.toNat < n := by
  unfold seqIndex? at h
  simp only at h
  split at h <;> split at h <;> simp_all <;> omega


theorem tail_ok {value slice : Expr} {o i : Value} {T id : String} {Q : Value → Shared → Prop} (hT : s.TypeIs o T) (hl : typeLookup (.type T) "__getitem__" = pure (some (.builtin id)))
    (hg : wpAny C.M F.A (getItem o i) Q E s) : wpAny C.M F.A (subscriptTail value slice o i) Q E s := by
  have hs : ∃ ops, subscripted slice false o i = operate ops (getItem o i) := by
    cases slice <;> first | exact ⟨_, rfl⟩ | skip
    rename_i a b c d
    cases c <;> exact ⟨_, rfl⟩
  obtain ⟨ops, hs⟩ := hs
  exact tail_any hT hl hg hs

theorem charAt_some {x : Str} {j : Nat} {v : V} (h : charAt x j = some v) : ∃ c, x.cps[j]? = some c ∧ v = .str ⟨#[c]⟩ := by
  unfold charAt at h
  cases q : x.cps[j]? with
  | none => rw [q] at h; cases h
  | some c => rw [q] at h; cases h; exact ⟨c, rfl, rfl⟩

theorem getItem_listS {l : Addr} {items : Array Value} {i : Int} {t : Tok} {j : Nat} {u : Value} {Q : Value → Shared → Prop} (hl : s.heap.IsList l items) (h1 : -(2 ^ 62) ≤ i) (h2 : i < 2 ^ 62)
    (hj : seqIndex? i items.size = some j) (hu : items[j]? = some u) (h : Q u s) : wpAny C.M F.A (getItem (.ref l) (.int i t)) Q E s := by
  by_cases h0 : 0 ≤ i
  · obtain ⟨rfl, hlt⟩ := seqIndex_pos h0 hj
    exact wpAny_getItem_list hl h0 (by omega) hu h
  · have hi : i < 0 := by omega
    have : j = (i + items.size).toNat ∧ 0 ≤ i + (items.size : Int) := by
      unfold seqIndex? at hj
      simp only [hi, if_true] at hj
      split at hj <;> simp_all
    exact wpAny_getItem_list_neg hl hi (by omega) (by omega) (by rw [← this.1]; exact hu) h

theorem itemS_ok (hC : CxOk C) (hD : DmOk C D) {value slice : Expr} {a b : V} {va vb : Value} (hF : FmOk C F n) (I : Inv C F ρ σ s) (ra : Rel C.G s.heap a va) (rb : Rel C.G s.heap b vb) (h : itemS D.G a b σ Q) :
    wpAny C.M F.A (subscriptTail value slice va vb) (Ok C F ρ σ s Q) E s := by
  have hu := roomU (k := 39) hF.room
  unfold itemS at h
  split at h
  · obtain ⟨i, j, v, rfl, h1, h2, h3, h4, h5⟩ := h
    simp only [Rel] at ra rb; obtain ⟨t, rfl⟩ := ra; obtain ⟨u, rfl⟩ := rb
    obtain ⟨c, hc, rfl⟩ := charAt_some h4
    refine tail_ok (typeIs_str s _ t) PySem.F.slot_str_getitem.lookup (PyProof.Rows.getItem_str (c := c) ?_ ?_ (Ok.tok I (by simp [Rel]) h5))
    · rw [Bool.or_eq_false_iff]; exact ⟨decide_eq_false (by omega), decide_eq_false (by omega)⟩
    · unfold idxS at h3; rw [h3]; exact hc
  · rename_i d
    simp only [Rel] at ra; subst ra
    split at h
    · rename_i vs hd
      obtain ⟨i, j, v, rfl, h1, h2, h3, h4, h5⟩ := h
      simp only [Rel] at rb; obtain ⟨u, rfl⟩ := rb
      obtain ⟨items, hl, hr⟩ := relList I hd
      obtain ⟨w, hw, rw'⟩ := item_at hr h4
      have hsz : items.size = vs.length := by simpa using hr.length
      exact tail_ok hl.typeIs slot_list_getitem.lookup (getItem_listS hl h1 h2 (by rw [hsz]; exact h3) hw (Ok.here I rw' h5))
    · exact h.elim
  · rename_i vs
    obtain ⟨i, j, v, rfl, h1, h2, h3, h4, h5⟩ := h
    simp only [Rel] at rb; obtain ⟨u, rfl⟩ := rb
    obtain ⟨t, items, rfl, ht, hr⟩ := relTup ra
    obtain ⟨w, hw, rw'⟩ := item_at hr h4
    have hsz : items.size = vs.length := by simpa using hr.length
    exact tail_ok ht.typeIs slot_tuple_getitem.lookup (PyProof.Rows.getItem_tuple ht (by omega) (by omega) (by rw [hsz]; exact h3) hw (Ok.here I rw' h5))
  · obtain ⟨i, v, rfl, h1, h2, h3, h4⟩ := h
    simp only [Rel] at ra rb; subst ra; obtain ⟨u, rfl⟩ := rb
    obtain ⟨items, hl, hr⟩ := hC.scr
    rw [hD.G] at h3
    have hx : (C.G.ns.map V.int)[i.toNat]? = some (.int v) := by simp [h3]
    obtain ⟨w, hw, rw'⟩ := hr.get hx
    have hl' : s.heap.IsList C.G.scr items := let ⟨o, e1, e2⟩ := hl; ⟨o, I.keep0 _ _ e1, e2⟩
    simp only [Rel] at rw'; obtain ⟨t, rfl⟩ := rw'
    exact tail_ok hl'.typeIs slot_list_getitem.lookup (wpAny_getItem_list hl' h1 (by omega) (by simpa using hw) (Ok.here I (by simp [Rel]) h4))
  · exact h.elim

theorem sndItem (hC : CxOk C) (hD : DmOk C D) {v i : Expr} {p : Pos} (hv : SndE C D v) (hi : SndE C D i) (hns : ∀ lo hi p, i ≠ .Slice lo hi none p) : SndE C D (.Subscript v i p) := fun F sc ρ σ Q X s E hF hs h I hE => by
  have h' : wpE D v sc ρ σ (fun a σ₁ => wpE D i sc ρ σ₁ (fun b σ₂ => itemS D.G a b σ₂ Q) X) X := by
    cases i
    case Slice lo hi st q =>
      cases st with
      | none => exact absurd rfl (hns _ _ _)
      | some st => exact h
    all_goals exact h
  refine Subscript_ (bindE hv hF hs h' I hE fun a s1 x σ1 I1 S1 r1 q1 => bindE hi hF hs q1 I1 hE fun b s2 y σ2 I2 S2 r2 q2 => ?_)
  exact wpAny_mono (itemS_ok hC hD hF I2 (r1.mono S2.tk) r2 q2) (fun v s3 o => o.trans (S1.trans S2)) fun _ _ x => x

/-! slices -/
theorem range_pick {α : Type} (xs : List α) : ∀ n, (List.range n).filterMap (xs[·]?) = xs.take n
  | 0 => by simp
  | n + 1 => by
    rw [List.range_succ, List.filterMap_append, range_pick xs n, List.take_add_one]
    cases h : xs[n]? <;> simp [h]
theorem pick_eq {α : Type} (xs : List α) (L H : Nat) : ((sliceRange (L : Int) (H : Int) 1).filterMap (xs[·]?)) = (xs.take H).drop L := by
  have e1 : sliceRange (L : Int) (H : Int) 1 = (List.range (H - L)).map (L + ·) := by
    unfold sliceRange
    simp only [show ((1 : Int) > 0) from by decide, if_true]
    have : (if (L : Int) < (H : Int) then ((H : Int) - L + 1 - 1) / 1 else 0).toNat = H - L := by
      split <;> omega
    rw [this]
    apply List.map_congr_left
    intro k _
    omega
  rw [e1, List.filterMap_map, List.drop_take, ← range_pick (xs.drop L)]
  congr 1
  funext k
  simp [List.getElem?_drop]

theorem clipLo (l : Option Int) (n : Nat) : (match l with | none => (0 : Int) | some i => max 0 (min (if i < 0 then i + n else i) n)) = ((min (loOf l n) n : Nat) : Int) := by
  cases l with
  | none => simp [loOf]
  | some i => simp only [loOf]; split <;> omega
theorem clipHi (u : Option Int) (n : Nat) : (match u with | none => (n : Int) | some i => max 0 (min (if i < 0 then i + n else i) n)) = ((min (hiOf u n) n : Nat) : Int) := by
  cases u with
  | none => simp [hiOf]
  | some i => simp only [hiOf]; split <;> omega
theorem cut_clip {α : Type} (xs : List α) (l u : Option Int) : (xs.take (min (hiOf u xs.length) xs.length)).drop (min (loOf l xs.length) xs.length) = cut xs l u := by
  unfold cut
  have h1 : xs.take (min (hiOf u xs.length) xs.length) = xs.take (hiOf u xs.length) := by
    rcases Nat.le_total (hiOf u xs.length) xs.length with h | h
    · rw [Nat.min_eq_left h]
    · rw [Nat.min_eq_right h, List.take_length, List.take_of_length_le h]
  rw [h1]
  rcases Nat.le_total (loOf l xs.length) xs.length with h | h
  · rw [Nat.min_eq_left h]
  · rw [Nat.min_eq_right h, List.drop_eq_nil_of_le, List.drop_eq_nil_of_le] <;> rw [List.length_take] <;> omega
theorem slicePick_cut (items : Array Value) (l u : Option Int) : (slicePick items l u none).toList = cut items.toList l u := by
  unfold slicePick sliceBounds
  simp only [Option.getD_none, show ((1 : Int) > 0) from by decide, if_true]
  have e := cut_clip items.toList l u
  rw [← e, ← pick_eq, ← clipLo, ← clipHi]
  simp only [Array.length_toList, Array.getElem?_toList]
  cases l <;> cases u <;> rfl
theorem strPick_cut (x : Str) (l u : Option Int) : (Builtin.Str.strSliceIndices l u 1 x.length).filterMap (x.cps[·]?) = cut x.cps.toList l u := by
  unfold Builtin.Str.strSliceIndices
  simp only [show ((1 : Int) > 0) from by decide, if_true]
  have e := cut_clip x.cps.toList l u
  rw [← e, ← pick_eq, ← clipLo, ← clipHi]
  simp only [Array.length_toList, Array.getElem?_toList]
  cases l <;> cases u <;> rfl
theorem slice_txt (x : Str) (l u : Option Int) : Txt.slice x l u = ⟨(cut x.cps.toList l u).toArray⟩ := by
  unfold Txt.slice
  split
  · rename_i hw
    simp only [beq_self_eq_true, Bool.true_and, beq_iff_eq] at hw
    have h1 : (Builtin.Str.strSliceIndices l u 1 x.length).length = min (hiOf u x.length) x.length - min (loOf l x.length) x.length := by
      unfold Builtin.Str.strSliceIndices
      simp only [show ((1 : Int) > 0) from by decide, if_true]
      have e : sliceRange ((min (loOf l x.length) x.length : Nat) : Int) ((min (hiOf u x.length) x.length : Nat) : Int) 1 = (List.range (min (hiOf u x.length) x.length - min (loOf l x.length) x.length)).map (min (loOf l x.length) x.length + ·) := by
        unfold sliceRange
        simp only [show ((1 : Int) > 0) from by decide, if_true]
        have : (if ((min (loOf l x.length) x.length : Nat) : Int) < ((min (hiOf u x.length) x.length : Nat) : Int) then (((min (hiOf u x.length) x.length : Nat) : Int) - ((min (loOf l x.length) x.length : Nat) : Int) + 1 - 1) / 1 else 0).toNat = min (hiOf u x.length) x.length - min (loOf l x.length) x.length := by
          split <;> omega
        rw [this]
        apply List.map_congr_left
        intro k _
        omega
      have e2 := congrArg List.length e
      rw [← clipLo, ← clipHi] at e2
      rw [List.length_map, List.length_range] at e2
      rw [← e2]
      cases l <;> cases u <;> rfl
    rw [h1] at hw
    have hx : x.cps.toList.length = x.length := by simp [Str.length]
    have := cut_clip x.cps.toList l u
    rw [hx] at this
    rw [← this]
    have e1 : x.cps.toList.take (min (hiOf u x.length) x.length) = x.cps.toList := List.take_of_length_le (by rw [hx]; omega)
    rw [e1]
    by_cases hn : x.length = 0
    · have : x.cps.toList = [] := List.eq_nil_of_length_eq_zero (by rw [hx]; exact hn)
      rw [this]
      have : x.cps = #[] := by simpa using this
      obtain ⟨c⟩ := x
      simp_all
    · have : min (loOf l x.length) x.length = 0 := by omega
      rw [this]; simp
  · rw [strPick_cut]
theorem RelL.cut {G : Gl} {h : Heap} {xs : List V} {vs : List Value} (r : RelL G h xs vs) (l u : Option Int) : RelL G h (cut xs l u) (Mine.cut vs l u) := by
  unfold Mine.cut
  rw [r.length]
  exact (r.take _).drop _
theorem bound_part {x : V} {v : Value} {l : Option Int} (h : boundS x = some l) (r : Rel C.G s.heap x v) : IsPart v l := by
  unfold boundS at h
  split at h <;> cases h
  · simp only [Rel] at r; subst r; exact .none
  · simp only [Rel] at r; obtain ⟨t, rfl⟩ := r; exact .int _ t

theorem cut_len {α : Type} (xs : List α) (l u : Option Int) : (cut xs l u).length ≤ xs.length := by
  unfold cut; rw [List.length_drop, List.length_take]; omega

theorem sliceS_ok (hC : CxOk C) (hD : DmOk C D) {value slice : Expr} {a l u : V} {va vl vu : Value} {E : Value → Shared → Prop} (hF : FmOk C F n) (I : Inv C F ρ σ s) (ra : Rel C.G s.heap a va) (rl : Rel C.G s.heap l vl) (ru : Rel C.G s.heap u vu)
    (h : sliceS D.G a l u σ Q) :
    wpAny C.M F.A (subscriptTail value slice va (.ref s.heap.objs.size)) (Ok C F ρ σ s Q) E { s with heap := s.heap.push { cls := .type "slice", data := .fields #[vl, vu, .none] } } := by
  obtain ⟨l', u', hl', hu', h⟩ := h
  have pl := bound_part hl' rl
  have pu := bound_part hu' ru
  have k1 : ∀ b o, s.heap.get? b = some o → (s.heap.push { cls := .type "slice", data := .fields #[vl, vu, .none] }).get? b = some o := fun b o e => Heap.get?_push_of_some _ e
  have lst : ∀ (items : Array Value) (vs : List V) (d : Addr), s.heap.IsList d items → RelL C.G s.heap vs items.toList → vs.length ≤ sizeLine → (∀ r, σ r = none → Q (.ref r) (σ.set r (.list (cut vs l' u')))) →
      wpAny C.M F.A (subscriptTail value slice (.ref d) (.ref s.heap.objs.size)) (Ok C F ρ σ s Q) E { s with heap := s.heap.push { cls := .type "slice", data := .fields #[vl, vu, .none] } } := by
    intro items vs d hl hr hsz hq
    refine tail_ok (Heap.IsList.typeIs (s := { s with heap := s.heap.push { cls := .type "slice", data := .fields #[vl, vu, .none] } }) (hl.push _)) slot_list_getitem.lookup
      (wpAny_getItem_list_slice (hl.push _) (Heap.IsSliceOf.new ..) pl pu .none (by simp) ?_ (by have := hr.length; simp at this; omega))
    refine Ok.newc I (fun b o e => Heap.get?_push_of_some _ (k1 b o e)) (by simp [Heap.size_push]) ?_ fun e => hq _ e
    refine ⟨slicePick items l' u' none, _, Heap.get?_push_size _ rfl, ?_⟩
    rw [slicePick_cut]
    exact (hr.cut l' u').mono ((TK.push _ _).trans (TK.push _ _))
  split at h
  · rename_i x
    simp only [Rel] at ra; obtain ⟨t, rfl⟩ := ra
    obtain ⟨lp, hlp, elp⟩ : ∃ lp : Option (Int × Tok), lp.map (·.1) = l' ∧ vl = partValue lp := by
      cases pl with
      | none => exact ⟨none, rfl, rfl⟩
      | int i t => exact ⟨some (i, t), rfl, rfl⟩
    obtain ⟨up, hup, eup⟩ : ∃ up : Option (Int × Tok), up.map (·.1) = u' ∧ vu = partValue up := by
      cases pu with
      | none => exact ⟨none, rfl, rfl⟩
      | int i t => exact ⟨some (i, t), rfl, rfl⟩
    subst elp; subst eup
    refine tail_ok (typeIs_str _ x t) PySem.F.slot_str_getitem.lookup (wpAny_getItem_str_slice (l := lp) (u := up) (st := none) ⟨_, Heap.get?_push_size _ rfl, rfl, rfl⟩ rfl ?_)
    refine post_val_or_str ⟨?_, fun t' k => ?_⟩
    · have := Txt.slice_le x (lp.map (·.1)) (up.map (·.1))
      exact Nat.le_trans this h.1
    · have e := slice_txt x l' u'
      rw [← hlp, ← hup] at e
      have h2 := h.2
      rw [← hlp, ← hup, ← e] at h2
      exact Ok.ext I k1 (x := .str (Txt.slice x (lp.map (·.1)) (up.map (·.1)))) (by simp [Rel, Txt.slice, slicePicked]) h2
  · exact h.elim
  · simp only [Rel] at ra; subst ra
    obtain ⟨items, hl, hr⟩ := hC.scr
    have hl' : s.heap.IsList C.G.scr items := let ⟨o, e1, e2⟩ := hl; ⟨o, I.keep0 _ _ e1, e2⟩
    rw [hD.G] at h
    exact lst items _ _ hl' (hr.mono (TK.of_keep I.keep0)) (by have := hC.scrLen; rw [List.length_map]; unfold sizeLine; omega) h
  · rename_i d
    simp only [Rel] at ra; subst ra
    split at h
    · rename_i vs hd
      obtain ⟨items, hl, hr⟩ := relList I hd
      exact lst items vs d hl hr h.1 h.2
    · exact h.elim
  · exact h.elim

theorem sndO_none : ∀ {F : Fm} {sc : Sc} {ρ : Loc} {σ : Store} {Q : QV} {X : XP} {s : Shared} {E : Value → Shared → Prop}, wpO D none sc ρ σ Q X → Inv C F ρ σ s → wpAny C.M F.A (valueOrNone (evalOpt none F.env)) (Ok C F ρ σ s Q) E s :=
  fun h I => by rw [wpO_none] at h; exact wpAny_pure (Ok.here I (by simp [Rel]) h)
def SndO (C : Cx) (D : Dm) (o : Option Expr) : Prop := ∀ (F : Fm) (sc : Sc) (ρ : Loc) (σ : Store) (Q : QV) (X : XP) (s : Shared) (E : Value → Shared → Prop),
  FmOk C F D.lvl → ScOk sc F.env → wpO D o sc ρ σ Q X → Inv C F ρ σ s → EOk C F ρ X E → wpAny C.M F.A (valueOrNone (evalOpt o F.env)) (Ok C F ρ σ s Q) E s
theorem sndOn : SndO C D none := fun F sc ρ σ Q X s E hF hs h I hE => sndO_none h I
theorem sndOs {e : Expr} (he : SndE C D e) : SndO C D (some e) := fun F sc ρ σ Q X s E hF hs h I hE => by
  rw [wpO_some] at h
  exact he F sc ρ σ Q X s E hF hs h I hE

theorem sndSlice (hC : CxOk C) (hD : DmOk C D) {v : Expr} {lo hi : Option Expr} {p q : Pos} (hv : SndE C D v) (hl : SndO C D lo) (hh : SndO C D hi) : SndE C D (.Subscript v (.Slice lo hi none q) p) := fun F sc ρ σ Q X s E hF hs h I hE => by
  rw [wpE_Slice] at h
  refine Subscript_ (bindE hv hF hs h I hE fun a s1 x σ1 I1 S1 r1 q1 => ?_)
  show wpAny _ _ (valueOrNone (evalOpt lo F.env) >>= fun l => holding [l] (valueOrNone (evalOpt hi F.env)) >>= fun u => holding [l, u] (valueOrNone (evalOpt none F.env)) >>= fun st => newFields "slice" [l, u, st]) _ _ s1
  refine wpAny_bind (wpAny_mono (hl F sc ρ σ1 _ X s1 E hF hs q1 I1 hE) (fun l s2 o2 => ?_) fun _ _ x => x)
  obtain ⟨xl, σ2, I2, S2, r2, q2⟩ := o2
  refine wpAny_bind (wpAny_holding (wpAny_mono (hh F sc ρ σ2 _ X s2 E hF hs q2 I2 hE) (fun u s3 o3 => ?_) fun _ _ x => x))
  obtain ⟨xu, σ3, I3, S3, r3, q3⟩ := o3
  refine wpAny_bind (wpAny_holding (wpAny_pure ?_))
  refine wpAny_newObj_type ?_ (by show (3 : Nat) ≤ sizeLine + 2; unfold sizeLine; omega)
  exact wpAny_mono (sliceS_ok hC hD hF I3 (r1.mono (S2.trans S3).tk) (r2.mono S3.tk) r3 q3) (fun v s4 o => o.trans ((S1.trans S2).trans S3)) fun _ _ x => x
end
end Mine

set_option linter.unusedVariables false
set_option autoImplicit false
namespace Mine
open PySem PySem.Calls PyProof.Rows PySem.SeqAt

section
variable {C : Cx} {D : Dm} {F : Fm} {ρ : Loc} {σ : Store} {s s' : Shared} {Q : QV} {v : Value} {x : V} {n : Nat} {E : Value → Shared → Prop}

theorem plainArgs_any : ∀ {es : List Expr} {pos : Pos} {env : Env}, plainArgs es = true → (backTo pos (starEach es env)).any (·.1) = false
  | [], _, _, _ => rfl
  | e :: r, pos, env, h => by
    have : ∀ v p, e ≠ .Starred v p := by rintro v p rfl; simp [plainArgs] at h
    have hr : plainArgs r = true := by cases e <;> first | exact h | exact absurd rfl (this _ _)
    have e1 : backTo pos (starEach (e :: r) env) = (false, eval e env) :: backTo pos (starEach r env) := by cases e <;> first | rfl | exact absurd rfl (this _ _)
    rw [e1, List.any_cons, plainArgs_any hr]; rfl

theorem evalArgs_ok {es : List Expr} {f : Value} {sc : Sc} {X : XP} {pos : Pos} {Q : List V → Store → Prop} (h : SndL C D es) (hp : plainArgs es = true) (hF : FmOk C F D.lvl) (hs : ScOk sc F.env) (hw : wpL D es sc ρ σ Q X) (I : Inv C F ρ σ s) (hE : EOk C F ρ X E)
    {R : Args → Shared → Prop} (k : ∀ vs s1, OkL C F ρ σ s Q vs s1 → R ⟨vs, []⟩ s1) : wpAny C.M F.A (evalArgs f true (backTo pos (starEach es F.env)) []) R E s := by
  have h1 := h F sc ρ σ Q X s E pos hF hs hw I hE
  cases es with
  | nil =>
    rw [wpL_nil] at hw
    exact evalArgs_empty (k [] s ⟨[], σ, I, Stp.refl _ _ _, RelL.nil, hw⟩)
  | cons e r =>
    have hns : ∀ v p, e ≠ .Starred v p := by rintro v p rfl; simp [plainArgs] at hp
    have e1 : backTo pos (starEach (e :: r) F.env) = (false, eval e F.env) :: backTo pos (starEach r F.env) := by cases e <;> first | rfl | exact absurd rfl (hns _ _)
    rw [e1] at h1 ⊢
    exact evalArgs_plain (wpAny_mono h1 (fun vs s1 o => k vs s1 o) fun _ _ x => x)

/-! isinstance -/
theorem sub_fact {Tx T : String} (h : Tx ∈ ["str", "int", "bool", "NoneType", "tuple", "list", "dict"]) (h' : T ∈ ["str", "int", "bool", "list", "tuple"]) :
    isSubtype (.type Tx) (.type T) = pure (Tx == T || (Tx == "bool" && T == "int")) ∧ typeOf (.type T) = pure (.type "type") := by
  simp only [List.mem_cons, List.not_mem_nil, or_false] at h h'
  constructor
  · rcases h with rfl | rfl | rfl | rfl | rfl | rfl | rfl <;> rcases h' with rfl | rfl | rfl | rfl | rfl <;> (rw [isSubtype_type]; kernel_rfl)
  · rcases h' with rfl | rfl | rfl | rfl | rfl <;> kernel_rfl

theorem isi_yes {v : Value} {Tx T : String} {Q : Value → Shared → Prop} (hT : s.TypeIs v Tx) (h : Tx ∈ ["str", "int", "bool", "NoneType", "tuple", "list", "dict"]) (h' : T ∈ ["str", "int", "bool", "list", "tuple"])
    (hr : (Tx == T || (Tx == "bool" && T == "int")) = true) (hq : Q (.bool true) s) : wpAny C.M F.A (call (.builtin "isinstance") [v, .type T]) Q E s := by
  obtain ⟨h1, h2⟩ := sub_fact h h'
  rw [hr] at h1
  exact call_isinstance (isinstance_true h2 h1) ⟨hT, hq⟩

theorem type_ne {Tx T : String} (h : (Tx == T || (Tx == "bool" && T == "int")) = false) : (Value.type Tx == Value.type T) = false := by
  rw [Bool.or_eq_false_iff] at h
  have : Tx ≠ T := by simpa using h.1
  simp [this]

theorem isInst_ok {a : V} {va : Value} {T : String} {r : Bool} {Q : Value → Shared → Prop} (I : Inv C F ρ σ s) (ra : Rel C.G s.heap a va) (h' : T ∈ ["str", "int", "bool", "list", "tuple"]) (h : isInst σ a T = some r)
    (hq : ∀ t, Q (.bool r) { s with toks := t }) : wpAny C.M F.A (call (.builtin "isinstance") [va, .type T]) Q E s := by
  unfold isInst at h
  cases ht : typeV σ a with
  | none => rw [ht] at h; cases h
  | some Tx =>
    rw [ht] at h
    simp only [Option.map_some, Option.some.injEq] at h
    have yes : ∀ (hm : Tx ∈ ["str", "int", "bool", "NoneType", "tuple", "list", "dict"]), s.TypeIs va Tx →
        ((isSubtype (.type Tx) (.type T) = pure false) → (Value.type Tx == Value.type T) = false → typeOf (.type T) = pure (.type "type") → (∀ t, Q (.bool false) { s with toks := t }) → wpAny C.M F.A (call (.builtin "isinstance") [va, .type T]) Q E s) →
        wpAny C.M F.A (call (.builtin "isinstance") [va, .type T]) Q E s := fun hm hT hf => by
      cases hb : (Tx == T || (Tx == "bool" && T == "int")) with
      | true => rw [hb] at h; subst h; exact isi_yes hT hm h' hb (hq s.toks)
      | false =>
        obtain ⟨h1, h2⟩ := sub_fact hm h'
        rw [hb] at h h1
        subst h
        exact hf h1 (type_ne hb) h2 hq
    unfold typeV at ht
    split at ht
    · cases ht; simp only [Rel] at ra; obtain ⟨t, rfl⟩ := ra
      exact yes (by decide) (typeIs_str s _ t) fun h1 h2 h3 h4 => call_isinstance (isinstance_false_str h2 h3 h1) (h4 _)
    · cases ht; simp only [Rel] at ra; obtain ⟨t, rfl⟩ := ra
      exact yes (by decide) (typeIs_int s _ t) fun h1 h2 h3 h4 => call_isinstance (isinstance_false_int h2 h3 h1) (h4 _)
    · cases ht; simp only [Rel] at ra; subst ra
      exact yes (by decide) rfl fun h1 h2 h3 h4 => call_isinstance (isinstance_false_bool h2 h3 h1) (h4 _)
    · cases ht; simp only [Rel] at ra; subst ra
      exact yes (by decide) rfl fun h1 h2 h3 h4 => call_isinstance (isinstance_false_none h2 h3 h1) (h4 _)
    · cases ht
      obtain ⟨p, items, rfl, htp, _⟩ := relTup ra
      exact yes (by decide) htp.typeIs fun h1 h2 h3 h4 => call_isinstance (isinstance_false_tuple h2 h3 h1) ⟨let ⟨o, e1, e2, _⟩ := htp; ⟨o, e1, e2⟩, h4 _⟩
    · rename_i p
      simp only [Rel] at ra; subst ra
      split at ht
      · rename_i vs hd
        cases ht
        obtain ⟨items, hl, hr⟩ := relList I hd
        exact yes (by decide) hl.typeIs fun h1 h2 h3 h4 => call_isinstance (isinstance_false_list h2 h3 h1) ⟨let ⟨o, e1, e2, _⟩ := hl; ⟨o, e1, e2⟩, h4 _⟩
      · rename_i kvs hd
        cases ht
        obtain ⟨o, es, m, e1, e2, _⟩ := (I.sto p _ hd).1
        exact yes (by decide) ⟨o, e1, e2.1⟩ fun h1 h2 h3 h4 => call_isinstance (isinstance_false_dict h2 h3 h1) ⟨⟨o, e1, e2.1⟩, h4 _⟩
      · cases ht
    · cases ht

/-! len -/
theorem len_ok (hC : CxOk C) (hD : DmOk C D) {a : V} {va : Value} {k : Nat} {Q : Value → Shared → Prop} (I : Inv C F ρ σ s) (ra : Rel C.G s.heap a va) (h : lenS D.G σ a = some k) (hk : k ≤ 2 ^ 40) (hq : ∀ t t', Q (.int k t) { s with toks := t' }) :
    wpAny C.M F.A (call (.builtin "len") [va]) Q E s := by
  unfold lenS at h
  split at h
  · cases h; simp only [Rel] at ra; obtain ⟨t, rfl⟩ := ra
    exact PyProof.Rows.len_str (by omega) (hq _ _)
  · rename_i p
    simp only [Rel] at ra; subst ra
    split at h
    · rename_i vs hd
      cases h
      obtain ⟨items, hl, hr⟩ := relList I hd
      have hsz : items.size = vs.length := by simpa using hr.length
      exact PyProof.Rows.len_list hl (by omega) (by rw [hsz]; exact hq _ _)
    · cases h
  · rename_i vs
    cases h
    obtain ⟨p, items, rfl, htp, hr⟩ := relTup ra
    have hsz : items.size = vs.length := by simpa using hr.length
    exact PyProof.Rows.len_tuple htp (by omega) (by rw [hsz]; exact hq _ _)
  · cases h; simp only [Rel] at ra; subst ra
    obtain ⟨items, hl, hr⟩ := hC.scr
    have hl' : s.heap.IsList C.G.scr items := let ⟨o, e1, e2⟩ := hl; ⟨o, I.keep0 _ _ e1, e2⟩
    have hsz : items.size = C.G.ns.length := by simpa using hr.length
    rw [hD.G] at hq hk
    exact PyProof.Rows.len_list hl' (by omega) (by rw [hsz]; exact hq _ _)
  · cases h

/-! all, abs, list -/
theorem allBools_get : ∀ {vs : List V} {bs : List Bool}, allBools vs = some bs → vs = bs.map V.bool
  | [], bs, h => by simp [allBools] at h; subst h; rfl
  | x :: vs, bs, h => by
    cases x <;> simp only [allBools] at h <;> try cases h
    rename_i b
    cases hr : allBools vs with
    | none => rw [hr] at h; cases h
    | some cs => rw [hr] at h; cases h; rw [allBools_get hr]; rfl
theorem allInts_get : ∀ {vs : List V} {bs : List Int}, allInts vs = some bs → vs = bs.map V.int
  | [], bs, h => by simp [allInts] at h; subst h; rfl
  | x :: vs, bs, h => by
    cases x <;> simp only [allInts] at h <;> try cases h
    rename_i b
    cases hr : allInts vs with
    | none => rw [hr] at h; cases h
    | some cs => rw [hr] at h; cases h; rw [allInts_get hr]; rfl
theorem allStrs_get : ∀ {vs : List V} {bs : List Str}, allStrs vs = some bs → vs = bs.map V.str
  | [], bs, h => by simp [allStrs] at h; subst h; rfl
  | x :: vs, bs, h => by
    cases x <;> simp only [allStrs] at h <;> try cases h
    rename_i b
    cases hr : allStrs vs with
    | none => rw [hr] at h; cases h
    | some cs => rw [hr] at h; cases h; rw [allStrs_get hr]; rfl

theorem all_ok {p : Addr} {vs : List V} {bs : List Bool} (hF : FmOk C F n) (I : Inv C F ρ σ s) (hd : σ p = some (.list vs)) (hb : allBools vs = some bs) (hq : Q (.bool (bs.all id)) σ) :
    wpAny C.M F.A (call (.builtin "all") [.ref p]) (Ok C F ρ σ s Q) E s := by
  obtain ⟨items, hl, hr⟩ := relList I hd
  have e := allBools_get hb
  have hlt : p < s.heap.objs.size := let ⟨o, h1, _⟩ := hl; Heap.lt_size h1
  refine call_all_walk (wpAny_pyIter_list hl ⟨s.heap.objs.size, _, _, _, _, _, (fun i => bs.getD i true), rfl, Walks.list (by exact hF.handled) s.heap.objs.size p (Nat.ne_of_lt hlt) items, ⟨⟨_, Heap.get?_push_size _ rfl, rfl, rfl⟩, hl.push _⟩, ?_, ?_⟩)
  · intro i v s' Q' E' hP hq'
    obtain ⟨x, hx, rx⟩ := hr.get' (by simpa using hP)
    rw [e] at hx
    cases hbi : bs[i]? with
    | none => simp [hbi] at hx
    | some b =>
      simp [hbi] at hx
      subst hx
      simp only [Rel] at rx; subst rx
      have e2 : bs.getD i true = b := by rw [List.getD_eq_getElem?_getD, hbi]; rfl
      simp only [e2] at hq'
      exact wpAny_truthy_bool hq'
  · intro h' tk hk
    have hsz : items.size = bs.length := by have := hr.length; rw [e] at this; simpa using this
    have ea : ((List.range items.size).all fun i => bs.getD i true) = bs.all id := by
      rw [hsz]
      have : (List.range bs.length).map (fun i => bs.getD i true) = bs := by
        apply List.ext_getElem
        · simp
        · intro i h1 h2; simp [h2]
      conv => rhs; rw [← this]
      rw [List.all_map]; rfl
    rw [ea]
    refine Ok.ext I (fun b o e' => hk b o ?_ (Heap.get?_push_of_some _ e')) (by simp [Rel]) hq
    simp only [List.mem_singleton]
    exact Nat.ne_of_lt (Heap.lt_size e')

theorem listCopy_ok (hC : CxOk C) (hD : DmOk C D) {a : V} {va : Value} {vs : List V} (I : Inv C F ρ σ s) (ra : Rel C.G s.heap a va) (h : seqS D.G σ a = some vs) (hsz : vs.length ≤ sizeLine) (hq : ∀ r, σ r = none → Q (.ref r) (σ.set r (.list vs))) :
    wpAny C.M F.A (call (.type "list") [va]) (Ok C F ρ σ s Q) E s := by
  have go : ∀ (p : Addr) (o : Obj) (items : Array Value) (m : Nat) (T : String), T = "list" ∨ T = "tuple" → s.heap.get? p = some o → o.cls = .type T → o.data = .seq items m → RelL C.G s.heap vs items.toList →
      wpAny C.M F.A (call (.type "list") [.ref p]) (Ok C F ρ σ s Q) E s := by
    intro p o items m T hT ho hc hd hr
    have hs2 : items.size = vs.length := by simpa using hr.length
    refine call_list_seq p hT ho hc hd (fun h' c' hk hD => ?_) (by omega)
    exact Ok.newc (t := s.toks) (c := .list vs) I hk (Nat.le_refl _) ⟨items, c', hD, hr.mono (TK.of_keep hk)⟩ fun e => hq _ e
  unfold seqS at h
  split at h
  · cases h
    obtain ⟨p, o, xs, m, rfl, ho, hc, hd, hr⟩ := ra.tup'
    exact go p o xs m "tuple" (.inr rfl) ho hc hd hr
  · rename_i p
    simp only [Rel] at ra; subst ra
    split at h
    · rename_i ws hd
      cases h
      obtain ⟨xs, m, h1, h2⟩ := (I.sto p _ hd).1
      exact go p _ xs m "list" (.inl rfl) h1 rfl rfl h2
    · cases h
  · cases h
    simp only [Rel] at ra; subst ra
    obtain ⟨items, ⟨o, h1, h2, m, h3⟩, hr⟩ := hC.scr
    rw [hD.G] at go
    exact go _ o items m "list" (.inl rfl) (I.keep0 _ _ h1) h2 h3 (hr.mono (TK.of_keep I.keep0))
  · cases h

theorem callB_ok (hC : CxOk C) (hD : DmOk C D) {m : String} {args : List V} {vals : List Value} (hF : FmOk C F n) (I : Inv C F ρ σ s) (r : RelL C.G s.heap args vals) (h : callB D m args σ Q) :
    wpAny C.M F.A (call (.builtin m) vals []) (Ok C F ρ σ s Q) E s := by
  unfold callB at h
  split at h
  · rename_i e; subst e
    obtain ⟨a, k, rfl, h1, h2, h3⟩ := h
    obtain ⟨v, vs, rfl, r1, r2⟩ := r.split
    rw [r2.nil']
    exact len_ok hC hD I r1 h1 h2 fun t t' => Ok.tok I (by simp [Rel]) h3
  · split at h
    · rename_i e; subst e
      obtain ⟨a, t, b, rfl, h1, h2, h3⟩ := h
      obtain ⟨v, vs, rfl, r1, r2⟩ := r.split
      obtain ⟨v2, vs2, rfl, r3, r4⟩ := r2.split
      rw [r4.nil']
      simp only [Rel] at r3; subst r3
      exact isInst_ok I r1 h1 h2 fun t => Ok.tok I (by simp [Rel]) h3
    · split at h
      · rename_i e; subst e
        obtain ⟨a, vs, bs, rfl, h1, h2, h3⟩ := h
        obtain ⟨v, vs', rfl, r1, r2⟩ := r.split
        rw [r2.nil']
        simp only [Rel] at r1; subst r1
        exact all_ok hF I h1 h2 h3
      · split at h
        · rename_i e; subst e
          obtain ⟨i, rfl, h1⟩ := h
          obtain ⟨v, vs', rfl, r1, r2⟩ := r.split
          rw [r2.nil']
          simp only [Rel] at r1; obtain ⟨t, rfl⟩ := r1
          refine call_abs_int fun u tk => Ok.tok I (x := .int i.natAbs) ?_ h1
          simp only [Rel]
          exact ⟨u, by congr 1; split <;> omega⟩
        · exact h.elim

theorem callY_ok (hC : CxOk C) (hD : DmOk C D) {m : String} {args : List V} {vals : List Value} (hF : FmOk C F n) (I : Inv C F ρ σ s) (r : RelL C.G s.heap args vals) (h : callY D m args σ Q) :
    wpAny C.M F.A (call (.type m) vals []) (Ok C F ρ σ s Q) E s := by
  unfold callY at h
  split at h
  · rename_i e; subst e
    obtain ⟨a, vs, rfl, h1, h2, h3⟩ := h
    obtain ⟨v, vs', rfl, r1, r2⟩ := r.split
    rw [r2.nil']
    exact listCopy_ok hC hD I r1 h1 h2 h3
  · exact h.elim

/-- a call of a name -/
theorem sndCall (hC : CxOk C) (hD : DmOk C D) {f : Str} {args : List Expr} {p q : Pos} (ha : SndL C D args) : SndE C D (.Call (.Name f p) args [] q) := fun F sc ρ σ Q X s E hF hs h I hE => by
  rw [wpE_Call] at h
  obtain ⟨hp, g, h1, hg, h2⟩ := h
  refine wpAny_Call_NameR (nameS_ok hC hD F sc ρ σ s hF hs I h1 fun u r => ?_)
  have hany := plainArgs_any (pos := q) (env := F.env) hp
  cases g with
  | «bif» m =>
    simp only [Rel] at r; subst r
    refine callWith_builtin hany (evalArgs_ok ha hp hF hs h2 I hE fun vs s1 o => ?_)
    obtain ⟨xs, σ1, I1, S1, r1, q1⟩ := o
    exact wpAny_mono (callB_ok hC hD hF I1 r1 q1) (fun _ _ o => o.trans S1) fun _ _ x => x
  | typ m =>
    simp only [Rel] at r; subst r
    refine PyProof.Rows.callWith_type hany (evalArgs_ok ha hp hF hs h2 I hE fun vs s1 o => ?_)
    obtain ⟨xs, σ1, I1, S1, r1, q1⟩ := o
    exact wpAny_mono (callY_ok hC hD hF I1 r1 q1) (fun _ _ o => o.trans S1) fun _ _ x => x
  | glb m =>
    simp only [Rel] at r
    obtain ⟨rk, tr, hT, hle⟩ := hg
    obtain ⟨a, o0, fd, ha0, ho0, hfd, hfn⟩ := hD.fn m rk tr hT hle
    rw [ha0] at r; cases r
    refine callWith_function (o := o0) (fd := fd) (evalArgs_ok ha hp hF hs h2 I hE fun vs s1 o => ?_)
    obtain ⟨xs, σ1, I1, S1, r1, q1⟩ := o
    refine ⟨⟨I1.keep0 _ _ ho0, hfd⟩, ?_⟩
    obtain ⟨rk', tr', hT', hle', q2⟩ := q1
    rw [hT] at hT'; cases hT'
    exact wpAny_mono (hfn F ρ σ1 s1 xs vs Q X E (hF.mono hle) I1 r1 q2 hE) (fun _ _ o => o.trans S1) fun _ _ x => x
  | _ => exact hg.elim
end
end Mine

set_option linter.unusedVariables false
set_option autoImplicit false
namespace Mine
open PySem PySem.Calls PyProof.Rows PySem.SeqAt

theorem ofString_inj (a b : String) : (Str.ofString a = Str.ofString b) = (a = b) := by
  apply propext
  constructor
  · intro h
    rw [Str.ofString_eq_toList, Str.ofString_eq_toList] at h
    have h1 : a.toList.map Char.toNat = b.toList.map Char.toNat := by
      have := congrArg (fun s : Str => s.cps.toList) h
      simpa using this
    have inj : ∀ (x y : List Char), x.map Char.toNat = y.map Char.toNat → x = y := by
      intro x
      induction x with
      | nil => intro y h; cases y <;> simp_all
      | cons c cs ih =>
        intro y h
        cases y with
        | nil => simp at h
        | cons d ds =>
          simp only [List.map_cons, List.cons.injEq] at h
          rw [ih ds h.2, show c = d from Char.toNat_inj.mp h.1]
    exact String.toList_inj.mp (inj _ _ h1)
  · intro h; rw [h]

section
variable {C : Cx} {D : Dm} {F : Fm} {ρ : Loc} {σ : Store} {s s' : Shared} {Q : QV} {v : Value} {x : V} {n : Nat} {E : Value → Shared → Prop}

theorem occ_one {x : Str} {c : Nat} {j : Nat} (h : x.cps.toList.idxOf? c = some j) : ∃ rest, Builtin.Str.occurrences x ⟨#[c]⟩ 0 x.length 1 = j :: rest := by
  have at_iff : ∀ i, StrLaws.At x ⟨#[c]⟩ x.length i ↔ x.cps.toList[i]? = some c := fun i => StrLaws.subAt_one x c i
  have hj : x.cps.toList[j]? = some c ∧ ∀ k, k < j → x.cps.toList[k]? ≠ some c := by
    unfold List.idxOf? at h
    obtain ⟨h1, h2, h3⟩ := List.findIdx?_eq_some_iff_getElem.mp h
    refine ⟨by rw [List.getElem?_eq_getElem h1]; simpa using h2, fun k hk e => ?_⟩
    have := h3 k hk
    have hk' : k < x.cps.toList.length := Nat.lt_trans hk h1
    rw [List.getElem?_eq_getElem hk'] at e
    simp at e this
    exact this e
  rcases StrLaws.occ_head_from x ⟨#[c]⟩ 0 1 (Nat.le_refl _) with ⟨_, h2⟩ | ⟨i, r, h1, _, h2, h3⟩
  · exact absurd ((at_iff j).mpr hj.1) (h2 j (Nat.zero_le _))
  · rcases Nat.lt_trichotomy i j with q | q | q
    · exact absurd ((at_iff i).mp h2) (hj.2 i q)
    · subst q; exact ⟨r, h1⟩
    · exact absurd ((at_iff j).mpr hj.1) (h3 j (Nat.zero_le _) q)

theorem append_ok {d : Addr} {vs : List V} {a : V} {va : Value} (I : Inv C F ρ σ s) (hd : σ d = some (.list vs)) (ra : Rel C.G s.heap a va) (hsz : vs.length < 2 ^ 20) (h : Q .none (σ.set d (.list (vs ++ [a])))) :
    wpAny C.M F.A (call (.builtin "list.append") [.ref d, va]) (Ok C F ρ σ s Q) E s := by
  obtain ⟨xs, m, h1, hr⟩ := (I.sto d _ hd).1
  have hl : s.heap.IsList d xs := ⟨_, h1, rfl, m, rfl⟩
  have hz : xs.size = vs.length := by simpa using hr.length
  refine wpAny_call_entry slot_list_append hl.typeIs entry_list_append ?_ (args_list_append _ _)
  show wpAny _ _ (updateSeq d (·.push va) >>= fun _ => ret .none) _ _ s
  refine wpAny_bind (wpAny_updateSeq h1 rfl (wpAny_pure ⟨.none, rfl, ?_⟩) (by unfold sizeLine; omega))
  have hu := Heap.get?_update_self (Obj.mapSeq (·.push va)) h1 rfl
  refine Ok.upd (t := s.toks) (x := .none) (c' := .list (vs ++ [a])) I hd (Heap.SameBut.update ..) (fun tk => ⟨xs.push va, _, hu, ?_⟩) (by rw [hu]; rfl) (fun _ => by simp [Rel]) h
  rw [Array.toList_push]
  exact (hr.mono tk).append (RelL.cons (ra.mono tk) RelL.nil)

theorem pop_ok {d : Addr} {vs : List V} {a : V} (I : Inv C F ρ σ s) (hd : σ d = some (.list vs)) (hz : vs.length ≤ 2 ^ 20) (hl : vs.getLast? = some a) (h : Q a (σ.set d (.list vs.dropLast))) :
    wpAny C.M F.A (call (.builtin "list.pop") [.ref d]) (Ok C F ρ σ s Q) E s := by
  obtain ⟨xs, m, h1, hr⟩ := (I.sto d _ hd).1
  have hz2 : xs.size = vs.length := by simpa using hr.length
  have hL : s.heap.IsList d xs := ⟨_, h1, rfl, m, rfl⟩
  have hl2 : vs[vs.length - 1]? = some a := by rw [← List.getLast?_eq_getElem?]; exact hl
  obtain ⟨u, hu, ru⟩ := hr.get hl2
  have hu' : xs[xs.size - 1]? = some u := by rw [hz2]; simpa using hu
  refine call_meets PySem.F.slot_list_pop hL.typeIs PySem.F.entry_list_pop (PySem.F.args_list_pop_1 _) (MeetsSeq.list_pop_last d xs m u hu' (by unfold sizeLine; omega)) ⟨h1, ?_⟩
  have hup := Heap.get?_update_self (Obj.mapSeq fun ys => ys.eraseIdxIfInBounds (xs.size - 1)) h1 rfl
  refine Ok.upd (t := s.toks) (x := a) (c' := .list vs.dropLast) I hd (Heap.SameBut.update ..) (fun tk => ⟨xs.eraseIdxIfInBounds (xs.size - 1), _, hup, ?_⟩) (by rw [hup]; rfl) (fun tk => ru.mono tk) h
  have hv : 0 < vs.length := by
    cases vs with
    | nil => cases hl
    | cons _ _ => simp
  have e : (xs.eraseIdxIfInBounds (xs.size - 1)).toList = xs.toList.take (vs.length - 1) := by
    rw [Array.eraseIdxIfInBounds, dif_pos (by omega), Array.toList_eraseIdx, List.eraseIdx_eq_take_drop_succ, List.drop_eq_nil_of_le (by rw [Array.length_toList]; omega), List.append_nil, hz2]
  have e2 : vs.dropLast = vs.take (vs.length - 1) := List.dropLast_eq_take
  rw [e, e2]
  exact (hr.mono tk).take _

theorem strsOf {vs : List V} {ss : List Str} {xs : List Value} (h : allStrs vs = some ss) (r : RelL C.G s.heap vs xs) : ∃ l : List (Str × Tok), l.map (·.1) = ss ∧ xs = strValues l := by
  rw [allStrs_get h] at r
  clear h
  induction ss generalizing xs with
  | nil => rw [r.nil']; exact ⟨[], rfl, rfl⟩
  | cons x ss ih =>
    obtain ⟨v, vs, rfl, r1, r2⟩ := r.split
    simp only [Rel] at r1
    obtain ⟨t, rfl⟩ := r1
    obtain ⟨l, h1, h2⟩ := ih r2
    exact ⟨(x, t) :: l, by simp [h1], by simp [strValues, h2]⟩

theorem glued_nil {x : Str} (hx : x.cps = #[]) (ss : List Str) : Builtin.Str.glued x ss = ⟨(ss.flatMap (·.cps.toList)).toArray⟩ := by
  unfold Builtin.Str.glued
  rw [hx]
  congr 1
  cases ss with
  | nil => rfl
  | cons y ys =>
    simp only [List.drop_succ_cons, List.drop_zero, List.headD_cons]
    have : ∀ (l : List Str) (acc : Array Nat), l.foldl (fun acc p => acc ++ #[] ++ p.cps) acc = acc ++ (l.flatMap (·.cps.toList)).toArray := by
      intro l
      induction l with
      | nil => intro acc; simp
      | cons z zs ih => intro acc; rw [List.foldl_cons, ih]; apply Array.toList_inj.mp; simp
    rw [this]
    simp

theorem join_ok {d : Addr} {vs : List V} {ss : List Str} {x : Str} {t : Tok} (I : Inv C F ρ σ s) (hd : σ d = some (.list vs)) (hs : allStrs vs = some ss) (hx : x.cps = #[]) (hz : (ss.map (·.length)).sum ≤ 2 ^ 20)
    (h : Q (.str ⟨(ss.flatMap (·.cps.toList)).toArray⟩) σ) : wpAny C.M F.A (call (.builtin "str.join") [.str x t, .ref d]) (Ok C F ρ σ s Q) E s := by
  obtain ⟨xs, m, h1, hr⟩ := (I.sto d _ hd).1
  obtain ⟨l, e1, e2⟩ := strsOf hs hr
  have hL : s.heap.IsList d (strValues l).toArray := by
    rw [← e2]; exact ⟨_, h1, rfl, m, rfl⟩
  have hxl : x.length = 0 := by simp [Str.length, hx]
  have hfold : ∀ (l : List Str) (k : Nat), l.foldl (fun a (b : Str) => a + b.length + x.length) k = k + (l.map (·.length)).sum := by
    intro l
    induction l with
    | nil => intro k; simp
    | cons y ys ih => intro k; rw [List.foldl_cons, ih]; simp [hxl]; omega
  have hlong : Builtin.Str.tooLong ((l.map (·.1)).toArray.foldl (· + ·.length + x.length) 0) = false := by
    rw [← Array.foldl_toList, List.toList_toArray, hfold, e1]
    unfold Builtin.Str.tooLong sizeLine
    exact decide_eq_false (by omega)
  refine call_meets PySem.F.slot_str_join (typeIs_str s x t) PySem.F.entry_str_join (PySem.F.args_str_join_2 _ _) (meets_str_join_list x t d l hlong) ⟨hL, ?_⟩
  unfold joinMade
  split
  · rename_i p
    refine Ok.here I (x := .str p.1) (by simp [Rel]) ?_
    simp only [List.map_cons, List.map_nil] at e1
    subst e1
    simpa using h
  · rw [e1, glued_nil hx]
    have hlen : (⟨(ss.flatMap (·.cps.toList)).toArray⟩ : Str).length ≤ sizeLine := by
      have : (⟨(ss.flatMap (·.cps.toList)).toArray⟩ : Str).length = (ss.map (·.length)).sum := by
        simp [Str.length, List.length_flatMap]
      rw [this]; unfold sizeLine; omega
    exact ⟨hlen, Ok.tok I (by simp [Rel]) h⟩

theorem mkM {name : Str} {T id : String} {ov : Value} {p : Pos} {args : List Expr} {Q : Value → Shared → Prop} (pa : PlainAttrs T) (sl : Slot T name id) (ty : typeOf (.builtin id) = pure (.type "method_descriptor"))
    (hT : s.TypeIs ov T) (hd : ∀ a, ov = .ref a → ∃ ob, s.heap.get? a = some ob ∧ ob.dict = none) (hp : plainArgs args = true)
    (h : wpAny C.M F.A (evalArgs (.builtin id) true (backTo p (starEach args F.env)) []) (fun a s₁ => wpAny C.M F.A (call (.builtin id) ([ov] ++ a.pos) a.kw) Q E s₁) E s) :
    MethodOn C.prog C.w F.A name p ov (backTo p (starEach args F.env)) Q E s :=
  ⟨T, id, pa, sl, ty, hT, hd, callWith_builtin (plainArgs_any hp) h⟩

theorem methId_ok {a : V} {va : Value} {m : Str} {id : String} (I : Inv C F ρ σ s) (ra : Rel C.G s.heap a va) (h : methId σ a m = some id) :
    ∃ T, PlainAttrs T ∧ Slot T m id ∧ typeOf (.builtin id) = pure (.type "method_descriptor") ∧ s.TypeIs va T ∧ (∀ b, va = .ref b → ∃ ob, s.heap.get? b = some ob ∧ ob.dict = none) := by
  unfold methId at h
  split at h
  · rename_i y
    simp only [Rel] at ra; obtain ⟨t, rfl⟩ := ra
    have nr : ∀ b, Value.str y t = .ref b → ∃ ob, s.heap.get? b = some ob ∧ ob.dict = none := fun b e => by cases e
    split at h
    · rename_i e; subst e; cases h; exact ⟨"str", PySem.F.plainAttrs_str, PySem.F.slot_str_index, PySem.F.type_str_index, typeIs_str s _ t, nr⟩
    · split at h
      · rename_i e; subst e; cases h; exact ⟨"str", PySem.F.plainAttrs_str, PySem.F.slot_str_lower, PySem.F.type_str_lower, typeIs_str s _ t, nr⟩
      · split at h
        · rename_i e; subst e; cases h; exact ⟨"str", PySem.F.plainAttrs_str, PySem.F.slot_str_upper, PySem.F.type_str_upper, typeIs_str s _ t, nr⟩
        · split at h
          · rename_i e; subst e; cases h; exact ⟨"str", PySem.F.plainAttrs_str, PySem.F.slot_str_join, PySem.F.type_str_join, typeIs_str s _ t, nr⟩
          · cases h
  · rename_i d
    simp only [Rel] at ra; subst ra
    split at h
    · rename_i vs hd
      obtain ⟨xs, k, h1, hr⟩ := (I.sto _ _ hd).1
      have tI : s.TypeIs (.ref d) "list" := Heap.IsList.typeIs ⟨_, h1, rfl, k, rfl⟩
      have nd : ∀ b, Value.ref d = .ref b → ∃ ob, s.heap.get? b = some ob ∧ ob.dict = none := fun b e => by cases e; exact ⟨_, h1, rfl⟩
      split at h
      · rename_i e; subst e; cases h; exact ⟨"list", PySem.F.plainAttrs_list, PySem.F.slot_list_append, PySem.F.type_list_append, tI, nd⟩
      · split at h
        · rename_i e; subst e; cases h; exact ⟨"list", PySem.F.plainAttrs_list, PySem.F.slot_list_pop, PySem.F.type_list_pop, tI, nd⟩
        · cases h
    · cases h
  · cases h

theorem methS_ok {a : V} {va : Value} {m : Str} {id : String} {args : List V} {vals : List Value} {σ₀ : Store} (hF : FmOk C F n) (I : Inv C F ρ σ s) (ra : Rel C.G s.heap a va) (r : RelL C.G s.heap args vals) (hid : methId σ₀ a m = some id)
    (h : methS D a m args σ Q) : wpAny C.M F.A (call (.builtin id) (va :: vals) []) (Ok C F ρ σ s Q) E s := by
  unfold methS at h
  split at h
  · rename_i x
    simp only [Rel] at ra; obtain ⟨t, rfl⟩ := ra
    unfold methId at hid; dsimp only at hid
    split at h
    · rename_i e; rw [if_pos e] at hid; cases hid
      obtain ⟨c, j, rfl, h1, h2⟩ := h
      obtain ⟨v, vs, rfl, r1, r2⟩ := r.split
      rw [r2.nil']
      simp only [Rel] at r1; obtain ⟨u, rfl⟩ := r1
      obtain ⟨rest, ho⟩ := occ_one h1
      exact SC.index ho (Ok.tok I (by simp [Rel]) h2)
    · rename_i e; rw [if_neg e] at hid
      split at h
      · rename_i e; rw [if_pos e] at hid; cases hid
        obtain ⟨rfl, h1, h2⟩ := h
        rw [r.nil']
        exact SCL.lower (by omega) fun _ => Ok.tok I (by simp [Rel]) h2
      · rename_i e; rw [if_neg e] at hid
        split at h
        · rename_i e; rw [if_pos e] at hid; cases hid
          obtain ⟨rfl, h1, h2⟩ := h
          rw [r.nil']
          exact SCL.upper (by omega) fun _ => Ok.tok I (by simp [Rel]) h2
        · rename_i e; rw [if_neg e] at hid
          split at h
          · rename_i e; rw [if_pos e] at hid; cases hid
            obtain ⟨d, vs, ss, rfl, h1, h2, h3, h4, h5⟩ := h
            obtain ⟨v, vs', rfl, r1, r2⟩ := r.split
            rw [r2.nil']
            simp only [Rel] at r1; subst r1
            exact join_ok I h1 h2 h3 h4 h5
          · exact h.elim
  · rename_i d
    simp only [Rel] at ra; subst ra
    unfold methId at hid; dsimp only at hid
    split at h
    · rename_i vs hd
      split at hid
      · split at h
        · rename_i e; rw [if_pos e] at hid; cases hid
          obtain ⟨v, rfl, h1, h2⟩ := h
          obtain ⟨u, us, rfl, r1, r2⟩ := r.split
          rw [r2.nil']
          exact append_ok I hd r1 h1 h2
        · rename_i e; rw [if_neg e] at hid
          split at h
          · rename_i e; rw [if_pos e] at hid; cases hid
            obtain ⟨rfl, h0, v, h1, h2⟩ := h
            rw [r.nil']
            exact pop_ok I hd h0 h1 h2
          · exact h.elim
      · cases hid
    · exact h.elim
  · exact h.elim

theorem attrBase_plain {o : Expr} {name : Str} {env : Env} {w : Sem Value} (h : (match o with | .Call (.Name ..) [] [] _ => false | _ => true) = true) : attributeBase o name env w = w := by
  unfold attributeBase
  split
  · simp at h
  · rfl

theorem sndMeth {o : Expr} {m : Str} {args : List Expr} {ap p : Pos} (ho : SndE C D o) (ha : SndL C D args) : SndE C D (.Call (.Attribute o m ap) args [] p) := fun F sc ρ σ Q X s E hF hs h I hE => by
  rw [wpE_Meth] at h
  obtain ⟨hp, hm, h⟩ := h
  unfold methOk at hm
  rw [Bool.and_eq_true, Bool.and_eq_true] at hm
  obtain ⟨⟨hm1, hm2⟩, hm3⟩ := hm
  refine wpAny_Call_method_late (attrBase_plain hm1) ?_ hm2 rfl (bindE ho hF hs h I hE fun r s1 x σ1 I1 S1 r1 q1 => ?_)
  · have h1 : (backTo p (starEach args F.env)).all (fun x => !x.1) = true := by
      have := plainArgs_any (pos := p) (env := F.env) hp
      rw [List.all_eq_true]
      intro y hy
      have h2 := List.any_eq_false.mp this y hy
      simpa using h2
    rw [h1]
    simpa [backToKw, keywordEach] using of_decide_eq_true hm3
  · obtain ⟨hid, q2⟩ := q1
    obtain ⟨id, hid⟩ := Option.isSome_iff_exists.mp hid
    obtain ⟨T, pa, sl, ty, hT, hd⟩ := methId_ok I1 r1 hid
    refine mkM pa sl ty hT hd hp (evalArgs_ok ha hp hF hs q2 I1 hE fun vs s2 o2 => ?_)
    obtain ⟨xs, σ2, I2, S2, r2, q3⟩ := o2
    exact wpAny_mono (methS_ok hF I2 (r1.mono S2.tk) r2 hid q3) (fun _ _ o => o.trans (S1.trans S2)) fun _ _ x => x
end
end Mine

set_option linter.unusedVariables false
set_option autoImplicit false
namespace Mine
open PySem PySem.Calls PyProof.Rows PySem.SeqAt

namespace RevF
theorem slot_next : Slot "reversed" "__next__" "reversed.__next__" :=
  .of (owner := "reversed") (n := "__next__") (by rw [typeLookup_type, builtinLookup_eq_fast]; kernel_rfl) (by decide +kernel) (by decide +kernel) (by decide +kernel)
    (by first | exact .inl (by decide +kernel) | exact .inr (by decide +kernel)) (by rw [isSubtype_type]; kernel_rfl)
theorem slot_iter : Slot "reversed" "__iter__" "reversed.__iter__" :=
  .of (owner := "reversed") (n := "__iter__") (by rw [typeLookup_type, builtinLookup_eq_fast]; kernel_rfl) (by decide +kernel) (by decide +kernel) (by decide +kernel)
    (by first | exact .inl (by decide +kernel) | exact .inr (by decide +kernel)) (by rw [isSubtype_type]; kernel_rfl)
theorem slot_init : Slot "reversed" "__init__" "object.__init__" :=
  .of (owner := "object") (n := "__init__") (by rw [typeLookup_type, builtinLookup_eq_fast]; kernel_rfl) (by decide +kernel) (by decide +kernel) (by decide +kernel)
    (by first | exact .inl (by decide +kernel) | exact .inr (by decide +kernel)) (by rw [isSubtype_type]; kernel_rfl)
theorem entry_next : entryFor table "reversed.__next__" = some Builtin.«reversed.__next__» := entryFor_of_tree (by kernel_rfl)
theorem entry_iter : entryFor table "reversed.__iter__" = some Builtin.«dict_keyiterator.__iter__» :=
  entryFor_alias (id' := "dict_keyiterator.__iter__") (by kernel_rfl) (by first | rfl | decide +kernel | (unfold String.splitOn; simp +decide [String.splitOnAux])) (by decide +kernel) (by kernel_rfl)
theorem args_next (a : Value) : argsOk "reversed.__next__" ⟨[a], []⟩ := by unfold argsOk; kernel_rfl
theorem args_iter (a : Value) : argsOk "reversed.__iter__" ⟨[a], []⟩ := by unfold argsOk; kernel_rfl
theorem mro_r : mroOf (.type "reversed") = pure [.type "reversed", .type "object"] := by rw [mroOf_type]; kernel_rfl
theorem sub_r : isSubtype (.type "reversed") (.type "reversed") = pure true := by rw [isSubtype_type]; kernel_rfl
theorem entry_new : entryFor table "reversed.__new__" = some Builtin.«reversed.__new__» := entryFor_of_tree (by kernel_rfl)
theorem called : TypeCalled "reversed" "reversed.__new__" "object.__init__" :=
  ⟨by decide, by decide +kernel, ⟨_, _, mro_r⟩, madeBy_type mro_r (by rw [typeLookup_type, builtinLookup_eq_fast]; kernel_rfl) (by decide +kernel), by decide +kernel, sub_r, slot_init⟩
theorem no_rev_str : typeLookup (.type "str") "__reversed__" = pure none := by rw [typeLookup_type, builtinLookup_eq_fast]; kernel_rfl
theorem no_rev_tuple : typeLookup (.type "tuple") "__reversed__" = pure none := by rw [typeLookup_type, builtinLookup_eq_fast]; kernel_rfl
end RevF

/-- a value whose items are read by their places -/
def IsRevI (h : Heap) (I : Addr) (seq : Value) (i : Int) : Prop := h.get? I = some { cls := .type "reversed", dict := none, data := .fields #[seq, rawInt i], slots := #[] }

section
variable {prog : Program} {w : World} {A : Around} {E : Value → Shared → Prop} {s : Shared}

theorem newClassR (a : Value) : Builtin.SmallTypes.newClass "reversed" ⟨[.type "reversed", a], []⟩ = pure (.type "reversed", [a]) := by
  unfold Builtin.SmallTypes.newClass
  simp only [isType, RevF.sub_r, pure_bind, Bool.not_true, Bool.false_eq_true, if_false]
end

theorem sub_str_dict : isSubtype (.type "str") (.type "dict") = pure false := by rw [isSubtype_type]; kernel_rfl
theorem sub_tuple_dict : isSubtype (.type "tuple") (.type "dict") = pure false := by rw [isSubtype_type]; kernel_rfl

theorem meets_rev_str (x : Str) (t : Tok) (hx : ¬ (x.length : Int) ≥ 2 ^ 63) : Meets (Builtin.«reversed.__new__» ⟨[.type "reversed", .str x t], []⟩)
    (fun _ R s => R (.ok (.ret (.ref s.heap.objs.size))) { s with heap := s.heap.push { cls := .type "reversed", data := .fields #[.str x t, rawInt (x.length - 1)] }, toks := s.toks + 1 + 1 }) :=
  .of_wp fun prog w A R s h => by
    unfold Builtin.«reversed.__new__»
    refine wpAny_bind (wpAny_of_eq (newClassR _) ?_)
    try dsimp only
    refine wpAny_bind (wpAny_of_eq (a := ()) (by first | rfl | kernel_rfl) ?_)
    refine wpAny_bind (wpAny_of_eq (a := ()) (by first | rfl | kernel_rfl) ?_)
    try dsimp only
    refine wpAny_bind (wpAny_specialOf (typeIs_str s x t) RevF.no_rev_str ?_)
    try dsimp only
    refine wpAny_bind (show wpAny _ _ (isInstance (.str x t) (.type "dict") >>= _) _ _ s from wpAny_bind (wpAny_isInstance (T := "str") (b := false) (typeIs_str s x t) sub_str_dict ?_))
    refine wpAny_bind (wpAny_specialOf (name := Str.ofString "__getitem__") (typeIs_str s x t) F.slot_str_getitem.lookup ?_)
    refine wpAny_pure ?_
    refine wpAny_bind (PyProof.Rows.len_str hx ?_)
    refine wpAny_bind (wpAny_pure ?_)
    exact wpAny_bind (m := newObj (.type "reversed") (.fields #[.str x t, rawInt (x.length - 1)])) (wpAny_newObj_type (wpAny_pure ⟨_, rfl, h⟩) (by show (2 : Nat) ≤ sizeLine + 2; unfold sizeLine; omega))
theorem meets_rev_tuple (a : Addr) (items : Array Value) (n : Nat) (dd : Option Addr) (sl : Array (Option Value)) (hx : (items.size : Int) < 2 ^ 63) : Meets (Builtin.«reversed.__new__» ⟨[.type "reversed", .ref a], []⟩)
    (fun _ R s => s.heap.get? a = some { cls := .type "tuple", dict := dd, data := .seq items n, slots := sl } ∧ R (.ok (.ret (.ref s.heap.objs.size))) { s with heap := s.heap.push { cls := .type "reversed", data := .fields #[.ref a, rawInt (items.size - 1)] }, toks := s.toks + 1 + 1 }) :=
  .of_wp fun prog w A R s h => by
    obtain ⟨ht, h⟩ := h
    have hI : IsTup s.heap a items := ⟨_, ht, rfl, n, rfl⟩
    unfold Builtin.«reversed.__new__»
    refine wpAny_bind (wpAny_of_eq (newClassR _) ?_)
    refine wpAny_bind (wpAny_of_eq (a := ()) (by first | rfl | kernel_rfl) ?_)
    refine wpAny_bind (wpAny_of_eq (a := ()) (by first | rfl | kernel_rfl) ?_)
    try dsimp only
    refine wpAny_bind (wpAny_specialOf hI.typeIs RevF.no_rev_tuple ?_)
    try dsimp only
    refine wpAny_bind (show wpAny _ _ (isInstance (.ref a) (.type "dict") >>= _) _ _ s from wpAny_bind (wpAny_isInstance (T := "tuple") (b := false) hI.typeIs sub_tuple_dict ?_))
    refine wpAny_bind (wpAny_specialOf (name := Str.ofString "__getitem__") hI.typeIs slot_tuple_getitem.lookup ?_)
    refine wpAny_pure ?_
    refine wpAny_bind (PyProof.Rows.len_tuple hI hx ?_)
    refine wpAny_bind (wpAny_pure ?_)
    exact wpAny_bind (m := newObj (.type "reversed") (.fields #[.ref a, rawInt (items.size - 1)])) (wpAny_newObj_type (wpAny_pure ⟨_, rfl, h⟩) (by show (2 : Nat) ≤ sizeLine + 2; unfold sizeLine; omega))

section
variable {prog : Program} {w : World} {A : Around} {E : Value → Shared → Prop} {s : Shared}
theorem call_rev_str {x : Str} {t : Tok} {Q : Value → Shared → Prop} (hx : ¬ (x.length : Int) ≥ 2 ^ 63)
    (h : Q (.ref s.heap.objs.size) { s with heap := s.heap.push { cls := .type "reversed", data := .fields #[.str x t, rawInt (x.length - 1)] }, toks := s.toks + 1 + 1 }) : wpAny (model prog w) A (call (.type "reversed") [.str x t]) Q E s :=
  callType_new RevF.called (by decide) (by kernel_rfl) (by kernel_rfl) (fun obj => F.args_object_init_2 obj _) RevF.entry_new (meets_rev_str x t hx) ⟨⟨_, Heap.get?_push_size _ rfl, rfl⟩, h⟩
theorem call_rev_tuple {a : Addr} {items : Array Value} {Q : Value → Shared → Prop} (ht : IsTup s.heap a items) (hx : (items.size : Int) < 2 ^ 63)
    (h : Q (.ref s.heap.objs.size) { s with heap := s.heap.push { cls := .type "reversed", data := .fields #[.ref a, rawInt (items.size - 1)] }, toks := s.toks + 1 + 1 }) : wpAny (model prog w) A (call (.type "reversed") [.ref a]) Q E s := by
  obtain ⟨⟨c, dd, dt, sl⟩, ho, hc, n, hd⟩ := ht
  replace hc : c = .type "tuple" := hc
  replace hd : dt = .seq items n := hd
  subst hc hd
  exact callType_new RevF.called (by decide) (by kernel_rfl) (by kernel_rfl) (fun obj => F.args_object_init_2 obj _) RevF.entry_new (meets_rev_tuple a items n dd sl hx) ⟨ho, ⟨_, Heap.get?_push_size _ rfl, rfl⟩, h⟩

theorem IsRevI.typeIs {I : Addr} {v : Value} {i : Int} (x : IsRevI s.heap I v i) : s.TypeIs (.ref I) "reversed" := ⟨_, x, rfl⟩
theorem pyIter_rev {I : Addr} {v : Value} {i : Int} {Q : Value → Shared → Prop} (x : IsRevI s.heap I v i) (h : Q (.ref I) s) : wpAny (model prog w) A (pyIter (.ref I)) Q E s := by
  refine wpAny_pyIter_slot x.typeIs RevF.slot_iter (wpAny_call_entry RevF.slot_iter x.typeIs RevF.entry_iter ?_ (RevF.args_iter _))
  show wpAny _ _ (ret (.ref I)) _ _ s
  exact wpAny_pure ⟨_, rfl, "reversed", _, x.typeIs, RevF.slot_next.lookup, h⟩

theorem next_rev_item {I : Addr} {v y : Value} {T id : String} {i : Nat} {Q : Option Value → Shared → Prop} (x : IsRevI s.heap I v (i : Int)) (hT : s.TypeIs v T) (hT2 : ∀ t, ({ s with toks := t } : Shared).TypeIs v T) (hg : typeLookup (.type T) "__getitem__" = pure (some (.builtin id)))
    (hget : ∀ (Q' : Value → Shared → Prop) (E' : Value → Shared → Prop) (t : Tok) (tk : Nat), (∀ y tk', Q (some y) { s with heap := s.heap.update I (Obj.mapFields (·.setIfInBounds 1 (rawInt ((i : Int) - 1)))), toks := tk' } → Q' y { s with toks := tk' }) → wpAny (model prog w) A.in1 (getItem v (.int i t)) Q' E' { s with toks := tk }) :
    wpAny (model prog w) A (pyNext (.ref I)) Q E s := by
  unfold pyNext
  refine wpAny_bind (wpAny_attempt (wpAny_callSpecial?_slot (name := Str.ofString "__next__") x.typeIs RevF.slot_next
    (wpAny_call_entry RevF.slot_next x.typeIs RevF.entry_next ?_ (RevF.args_next _))))
  unfold Builtin.«reversed.__next__»
  refine wpAny_bind (wpAny_of_eq (a := (Value.ref I, [])) rfl ?_)
  try dsimp only
  refine wpAny_bind (wpAny_field x rfl (x := v) rfl ?_)
  refine wpAny_bind (wpAny_field x rfl (x := rawInt (i : Int)) rfl ?_)
  show wpAny _ _ (if (i : Int) < 0 then _ else _) _ _ s
  rw [if_neg (by omega)]
  refine wpAny_bind (wpAny_specialOf (name := Str.ofString "__getitem__") hT hg ?_)
  rw [if_neg (by simp)]
  refine wpAny_bind (wpAny_mkInt ?_)
  refine wpAny_bind (wpAny_attempt (hget _ _ s.toks (s.toks + 1) fun y tk' hq => ?_))
  refine wpAny_bind (wpAny_field x rfl (x := rawInt (i : Int)) rfl ?_)
  refine wpAny_bind (wpAny_setField x rfl (by simp) ?_)
  exact wpAny_pure ⟨y, rfl, wpAny_pure hq⟩

theorem next_rev_end {I : Addr} {v : Value} {Q : Option Value → Shared → Prop} (hh : A.handled = none) (x : IsRevI s.heap I v (-1))
    (hQ : ∀ h', Heap.ExtBut I s.heap h' → Q none { s with heap := h' }) : wpAny (model prog w) A (pyNext (.ref I)) Q E s := by
  unfold pyNext
  refine wpAny_bind (wpAny_attempt (wpAny_callSpecial?_slot (name := Str.ofString "__next__") x.typeIs RevF.slot_next
    (wpAny_call_entry RevF.slot_next x.typeIs RevF.entry_next ?_ (RevF.args_next _))))
  unfold Builtin.«reversed.__next__»
  refine wpAny_bind (wpAny_of_eq (a := (Value.ref I, [])) rfl ?_)
  try dsimp only
  refine wpAny_bind (wpAny_field x rfl (x := v) rfl ?_)
  refine wpAny_bind (wpAny_field x rfl (x := rawInt (-1)) rfl ?_)
  show wpAny _ _ (if (-1 : Int) < 0 then _ else _) _ _ s
  rw [if_pos (by omega)]
  refine wpAny_bind (wpAny_rule ?_)
  refine wpAny_bind (show wpAny _ _ (setField (.ref I) 1 (rawInt (-1)) >>= fun _ => setField (.ref I) 0 .none) _ _ s from wpAny_bind (wpAny_setField x rfl (by simp) ?_))
  have x1 := Heap.get?_update_self (Obj.mapFields (·.setIfInBounds 1 (rawInt (-1)))) x rfl
  refine wpAny_setField x1 rfl (by simp) ?_
  have x2 := Heap.get?_update_self (Obj.mapFields (·.setIfInBounds 0 Value.none)) x1 rfl
  (refine wpAny_bind ?_; show wpAny _ _ (newExc (.type "StopIteration") [] >>= _) _ _ _)
  refine wpAny_bind ?_
  simp only [newExc, newTuple]
  refine wpAny_bind (wpAny_newObj_type ?_ (by size_fits))
  refine wpAny_bind (m := firstArgMember _ _) (wpAny_of_eq (a := Value.none) (by first | rfl | (simp only [firstArgMember]; rfl)) ?_)
  refine wpAny_newObj_type ?_ (by size_fits)
  simp only [raiseNew]
  refine wpAny_bind (wpAny_handled ?_)
  first | rw [show A.in1.handled = none from hh] | rw [hh]
  refine wpAny_bind (wpAny_pure (wpAny_throw ?_))
  refine wpAny_bind (wpAny_isInstance (T := "StopIteration") (b := true) ⟨_, Heap.get?_push_size _ rfl, rfl⟩ isSubtype_stop ?_)
  exact wpAny_pure (hQ _ (((((Heap.SameBut.update _ _ _).extBut).trans (Heap.SameBut.update _ _ _).extBut).push _).push _))
end
end Mine

set_option linter.unusedVariables false
set_option autoImplicit false
namespace Mine
open PySem PySem.Calls PyProof.Rows PySem.SeqAt PySem.W

def bindable (t : Expr) (x : V) : Prop := match t with
  | .Name .. => True
  | .Tuple .. => ∃ vs, x = .tup vs
  | _ => False
theorem bindable_of {sc : Sc} {t : Expr} {x : V} {ρ ρ' : Loc} (h : bindS sc t x ρ = some ρ') : bindable t x := by
  unfold bindS at h
  unfold bindable
  split at h
  · trivial
  · split at h
    · exact ⟨_, rfl⟩
    · cases h
  · cases h

structure Turns (C : Cx) (A : Around) (target : Expr) (I : Addr) (fp : List Addr) (src : Heap → Prop) (items : List V) (St : Nat → Heap → Prop) : Prop where
  live : ∀ i h, St i h → ∀ b ∈ fp, ∃ o vs, h.get? b = some o ∧ o.data = .fields vs
  frame : ∀ i h h', St i h → (∀ b ∈ fp, ∀ o, h.get? b = some o → h'.get? b = some o) → St i h'
  turn : ∀ i x (s : Shared) (Q : Value → Shared → Prop) (E : Value → Shared → Prop), items[i]? = some x → bindable target x → St i s.heap → src s.heap →
    (∀ v h' tk, Rel C.G h' x v → St (i + 1) h' → (∀ b o, b ∉ fp → s.heap.get? b = some o → h'.get? b = some o) → Q v { s with heap := h', toks := tk }) →
    wpAny C.M A (pyNext (.ref I)) (fun r s₁ => ∃ v, r = some v ∧ wpAny C.M A (letOwnedTupleGo target (.ref I) v) (fun _ s₂ => Q v s₂) E s₁) E s
  done : ∀ (s : Shared) (Q : Shared → Prop) (E : Value → Shared → Prop), St items.length s.heap → src s.heap →
    (∀ h' tk, (∀ b o, b ∉ fp → s.heap.get? b = some o → h'.get? b = some o) → Q { s with heap := h', toks := tk }) → wpAny C.M A (pyNext (.ref I)) (fun r s₁ => r = none ∧ Q s₁) E s
  self : ∀ i (s : Shared) (Q : Value → Shared → Prop) (E : Value → Shared → Prop), St i s.heap → Q (.ref I) s → wpAny C.M A (pyIter (.ref I)) Q E s

/-- out of a walk of the library that leans on nothing else -/
theorem Turns.ofWalks {C : Cx} {A : Around} {target : Expr} {I : Addr} {items : List V} {P : Nat → Value → Prop} {St : Nat → Heap → Prop} (W : Walks C.prog C.w A I [I] [I] items.length P St)
    (hlive : ∀ i h, St i h → ∃ o vs, h.get? I = some o ∧ o.data = .fields vs) (hrel : ∀ i x v h, items[i]? = some x → P i v → Rel C.G h x v)
    (hn : ∀ x ∈ items, ∀ vs, x ≠ .tup vs) :
    Turns C A target I [I] (fun _ => True) items St where
  live := fun i h st b hb => by rw [List.mem_singleton.mp hb]; exact hlive i h st
  frame := W.frame
  turn := fun i x s Q E hx hb hst _ hQ => by
    have hi : i < items.length := (List.getElem?_eq_some_iff.mp hx).1
    refine W.item i s _ E hi hst fun v h' tk hP hst' hk => ⟨v, rfl, ?_⟩
    have q := hQ v h' tk (hrel i x v h' hx hP) hst' hk
    unfold bindable at hb
    split at hb
    · exact wpAny_pure q
    · obtain ⟨vs, rfl⟩ := hb; exact absurd rfl (hn _ (List.mem_of_getElem? hx) vs)
    · exact hb.elim
  done := fun s Q E hst _ hQ => W.done s _ E hst fun h' tk hk => ⟨rfl, hQ h' tk hk⟩
  self := W.self

section
variable {C : Cx} {A : Around} {target : Expr}

theorem signs_plain (cs : List Nat) : ∀ x ∈ (cs.map fun c => V.str ⟨#[c]⟩), ∀ vs, x ≠ .tup vs := by
  intro x hx vs q
  obtain ⟨c, _, hc⟩ := List.mem_map.mp hx
  rw [← hc] at q; cases q

theorem turnsStr {x : Str} {I : Addr} {St : Nat → Heap → Prop} (W : Walks C.prog C.w A I [I] [I] x.cps.size (SignAt x) St) (hlive : ∀ i h, St i h → ∃ o vs, h.get? I = some o ∧ o.data = .fields vs) :
    Turns C A target I [I] (fun _ => True) (x.cps.toList.map fun c => .str ⟨#[c]⟩) St := by
  have e : (x.cps.toList.map fun c => V.str ⟨#[c]⟩).length = x.cps.size := by simp
  refine Turns.ofWalks (by rw [e]; exact W) hlive (fun i y v h hy hP => ?_) (signs_plain _)
  obtain ⟨c, t, h1, h2⟩ := hP
  simp [h1] at hy
  subst hy; subst h2
  simp [Rel]

theorem turnsRange (hh : A.handled = none) {I : Addr} (n : Nat) :
    Turns C A target I [I] (fun _ => True) ((List.range n).map fun (i : Nat) => V.int (i : Int)) (fun i h => IsRangeIter h I (0 + (i : Nat) * 1) ((n : Int) - (i : Nat)) 1) := by
  have e : ((List.range n).map fun (i : Nat) => V.int (i : Int)).length = n := by simp
  refine Turns.ofWalks (by rw [e]; exact Walks.range hh I 0 1 n) (fun i h st => ⟨_, _, st, rfl⟩) (fun i y v h hy hP => ?_) fun x hx vs q => ?_
  · obtain ⟨t, rfl⟩ := hP
    rw [List.getElem?_map] at hy
    cases hr : (List.range n)[i]? with
    | none => rw [hr] at hy; cases hy
    | some j =>
      rw [hr] at hy
      obtain ⟨_, rfl⟩ := List.getElem?_eq_some_iff.mp hr
      simp at hy
      subst hy
      simp [Rel]
  · obtain ⟨c, _, hc⟩ := List.mem_map.mp hx
    rw [← hc] at q; cases q

theorem turnsList (hh : A.handled = none) {I ax : Addr} (hne : ax ≠ I) (vs : List V) :
    Turns C A target I [I] (fun h => ∃ its, h.IsList ax its ∧ RelL C.G h vs its.toList) vs (fun i h => h.IsListIter I ax i) where
  live := fun i h st b hb => by rw [List.mem_singleton.mp hb]; obtain ⟨o, ho, _, hd⟩ := st; exact ⟨o, _, ho, hd⟩
  frame := fun i h h' st hk => st.at fun o e => hk I (by simp) o e
  turn := fun i x s Q E hx hb hst hsrc hQ => by
    obtain ⟨its, hl, hr⟩ := hsrc
    have hi : i < its.size := by have := hr.length; have := (List.getElem?_eq_some_iff.mp hx).1; simp at *; omega
    refine (Walks.list (prog := C.prog) (w := C.w) hh I ax hne its).item i s _ E hi ⟨hst, hl⟩ fun v h' tk hP hst' hk => ⟨v, rfl, letGo_listiter hst'.1 ?_⟩
    obtain ⟨y, hy, ry⟩ := hr.get' (by simpa using hP)
    rw [hx] at hy; cases hy
    refine hQ v h' tk (ry.mono fun b o e ht => hk b o (fun q => ?_) e) hst'.1 hk
    rw [List.mem_singleton.mp q] at e
    obtain ⟨o', ho', hc, _⟩ := hst
    rw [ho'] at e; cases e
    have := ht.1
    rw [hc] at this; exact absurd this (by decide)
  done := fun s Q E hst hsrc hQ => by
    obtain ⟨its, hl, hr⟩ := hsrc
    have hi : vs.length = its.size := by have := hr.length; simp at this; omega
    rw [hi] at hst
    exact (Walks.list (prog := C.prog) (w := C.w) hh I ax hne its).done s _ E ⟨hst, hl⟩ fun h' tk hk => ⟨rfl, hQ h' tk hk⟩
  self := fun i s Q E hst hQ => by
    exact wpAny_pyIter_listiter hst hQ
end
end Mine

set_option linter.unusedVariables false
set_option autoImplicit false
namespace Mine
open PySem PySem.Calls PyProof.Rows PySem.SeqAt PySem.W

theorem seqIndex_nat {j n : Nat} (h : j < n) : seqIndex? (j : Int) n = some j := by
  unfold seqIndex?
  have h1 : ¬ ((j : Int) < 0) := by omega
  simp [h1, h]

section
variable {C : Cx} {A : Around} {target : Expr}
theorem turnsTuple (hh : A.handled = none) {I ax : Addr} (hne : ax ≠ I) (vs : List V) :
    Turns C A target I [I] (fun h => ∃ its, h.IsTuple ax its ∧ RelL C.G h vs its.toList) vs (fun i h => h.IsTupleIter I ax i) where
  live := fun i h st b hb => by rw [List.mem_singleton.mp hb]; obtain ⟨o, ho, _, hd⟩ := st; exact ⟨o, _, ho, hd⟩
  frame := fun i h h' st hk => by obtain ⟨o, ho, r⟩ := st; exact ⟨o, hk I (by simp) o ho, r⟩
  turn := fun i x s Q E hx hb hst hsrc hQ => by
    obtain ⟨its, hl, hr⟩ := hsrc
    have hi : i < its.size := by have := hr.length; have := (List.getElem?_eq_some_iff.mp hx).1; simp at *; omega
    refine (Walks.tuple (prog := C.prog) (w := C.w) hh I ax hne its).item i s _ E hi ⟨hst, hl⟩ fun v h' tk hP hst' hk => ⟨v, rfl, letGo_tupleiter hst'.1 ?_⟩
    obtain ⟨y, hy, ry⟩ := hr.get' (by simpa using hP)
    rw [hx] at hy; cases hy
    refine hQ v h' tk (ry.mono fun b o e ht => hk b o (fun q => ?_) e) hst'.1 hk
    rw [List.mem_singleton.mp q] at e
    obtain ⟨o', ho', hc, _⟩ := hst
    rw [ho'] at e; cases e
    have := ht.1
    rw [hc] at this; exact absurd this (by decide)
  done := fun s Q E hst hsrc hQ => by
    obtain ⟨its, hl, hr⟩ := hsrc
    have hi : vs.length = its.size := by have := hr.length; simp at this; omega
    rw [hi] at hst
    exact (Walks.tuple (prog := C.prog) (w := C.w) hh I ax hne its).done s _ E ⟨hst, hl⟩ fun h' tk hk => ⟨rfl, hQ h' tk hk⟩
  self := fun i s Q E hst hQ => by
    exact wpAny_pyIter_tupleiter hst hQ

theorem revUpd {h : Heap} {I : Addr} {v : Value} {i j : Int} (x : IsRevI h I v i) : IsRevI (h.update I (Obj.mapFields (·.setIfInBounds 1 (rawInt j)))) I v j := by
  have := Heap.get?_update_self (Obj.mapFields (·.setIfInBounds 1 (rawInt j))) x rfl
  exact this

theorem revGo {I : Addr} {v x : Value} {i : Int} {M : Model} {s : Shared} {Q : Unit → Shared → Prop} {E : Value → Shared → Prop} (hit : IsRevI s.heap I v i) (h : Q () s) :
    wpAny M A (letOwnedTupleGo target (.ref I) x) Q E s := by
  unfold letOwnedTupleGo
  split
  · split
    · rename_i r a e
      cases e
      refine wpAny_bind (wpAny_load hit ?_)
      exact wpAny_pure h
    · exact wpAny_pure h
  · split
    · rename_i r a e
      cases e
      refine wpAny_bind (wpAny_load hit ?_)
      exact wpAny_pure h
    · exact wpAny_pure h
  · exact wpAny_pure h

theorem revKeep {h : Heap} {I : Addr} {f : Obj → Obj} : ∀ b o, b ∉ [I] → h.get? b = some o → (h.update I f).get? b = some o := fun b o hb e =>
  ((Heap.SameBut.update h I f).2 b fun q => hb (by simp [q])).trans e

theorem turnsRevStr (hh : A.handled = none) {I : Addr} (x : Str) (t : Tok) (hsz : x.length < 2 ^ 62) :
    Turns C A target I [I] (fun _ => True) (x.cps.toList.reverse.map fun c => .str ⟨#[c]⟩) (fun i h => IsRevI h I (.str x t) ((x.length : Int) - 1 - i)) where
  live := fun i h st b hb => by rw [List.mem_singleton.mp hb]; exact ⟨_, _, st, rfl⟩
  frame := fun i h h' st hk => hk I (by simp) _ st
  turn := fun i y s Q E hx hb hst hsrc hQ => by
    have hi : i < x.cps.size := by have := (List.getElem?_eq_some_iff.mp hx).1; simpa using this
    have hl : x.length = x.cps.size := rfl
    obtain ⟨j, hj⟩ : ∃ j : Nat, (x.length : Int) - 1 - i = (j : Int) := ⟨x.length - 1 - i, by omega⟩
    rw [hj] at hst
    have hjl : j < x.cps.size := by omega
    have hc : x.cps[j]? = some x.cps[j] := by simp [hjl]
    have hy : y = .str ⟨#[x.cps[j]]⟩ := by
      have e : x.cps.size - 1 - i = j := by omega
      simp [List.getElem?_reverse, hi, e, hjl] at hx
      exact hx.symm
    subst hy
    refine next_rev_item (y := .none) (T := "str") hst (typeIs_str s _ t) (fun _ => typeIs_str _ _ t) PySem.F.slot_str_getitem.lookup fun Q' E' t' tk hq => ?_
    refine PyProof.Rows.getItem_str (c := x.cps[j]) (by rw [Bool.or_eq_false_iff]; constructor <;> (apply decide_eq_false; omega)) (by rw [seqIndex_nat (by omega)]; exact hc) (hq _ _ ⟨_, rfl, ?_⟩)
    refine revGo (revUpd hst) (hQ _ _ _ (by simp [Rel]) ?_ revKeep)
    have : (x.length : Int) - 1 - ((i + 1 : Nat) : Int) = (j : Int) - 1 := by omega
    rw [this]; exact revUpd hst
  done := fun s Q E hst hsrc hQ => by
    have : (x.length : Int) - 1 - ((x.cps.toList.reverse.map fun c => V.str ⟨#[c]⟩).length : Int) = -1 := by
      have hl : x.length = x.cps.size := rfl
      simp; omega
    rw [this] at hst
    exact next_rev_end hh hst fun h' he => ⟨rfl, hQ h' s.toks fun b o hb e => he b o (fun q => hb (by simp [q])) e⟩
  self := fun i s Q E hst hQ => pyIter_rev hst hQ

theorem turnsRevTuple (hh : A.handled = none) {I ax : Addr} (hne : ax ≠ I) (vs : List V) (hsz : vs.length < 2 ^ 62) :
    Turns C A target I [I] (fun h => ∃ its, IsTup h ax its ∧ RelL C.G h vs its.toList) vs.reverse (fun i h => IsRevI h I (.ref ax) ((vs.length : Int) - 1 - i)) where
  live := fun i h st b hb => by rw [List.mem_singleton.mp hb]; exact ⟨_, _, st, rfl⟩
  frame := fun i h h' st hk => hk I (by simp) _ st
  turn := fun i y s Q E hx hb hst hsrc hQ => by
    obtain ⟨its, hl, hr⟩ := hsrc
    have hlen : its.size = vs.length := by have := hr.length; simpa using this
    have hi : i < vs.length := by have := (List.getElem?_eq_some_iff.mp hx).1; simpa using this
    obtain ⟨j, hj⟩ : ∃ j : Nat, (vs.length : Int) - 1 - i = (j : Int) := ⟨vs.length - 1 - i, by omega⟩
    rw [hj] at hst
    have hjl : j < vs.length := by omega
    have hy : vs[j]? = some y := by
      have e : vs.length - 1 - i = j := by omega
      rw [List.getElem?_reverse hi, e] at hx
      exact hx
    obtain ⟨u, hu, ru⟩ := hr.get hy
    have tis : s.TypeIs (.ref ax) "tuple" := let ⟨o, ho, hc, _⟩ := hl; ⟨o, ho, hc⟩
    refine next_rev_item (y := .none) (T := "tuple") hst tis (fun _ => tis) slot_tuple_getitem.lookup fun Q' E' t' tk hq => ?_
    refine PyProof.Rows.getItem_tuple (items := its) (x := u) (j := j) hl (by omega) (by omega) (seqIndex_nat (by omega)) (by simpa using hu) (hq _ _ ⟨_, rfl, ?_⟩)
    have tk2 : TK s.heap (s.heap.update I (Obj.mapFields (·.setIfInBounds 1 (rawInt ((j : Int) - 1))))) := TK.sameBut (Heap.SameBut.update _ _ _) hst fun z => absurd z.1 (by show ¬ (Value.type "reversed" = Value.type "tuple"); decide)
    refine revGo (revUpd hst) (hQ _ _ _ (ru.mono tk2) ?_ revKeep)
    have : (vs.length : Int) - 1 - ((i + 1 : Nat) : Int) = (j : Int) - 1 := by omega
    rw [this]; exact revUpd hst
  done := fun s Q E hst hsrc hQ => by
    have : (vs.length : Int) - 1 - (vs.reverse.length : Int) = -1 := by simp; omega
    rw [this] at hst
    exact next_rev_end hh hst fun h' he => ⟨rfl, hQ h' s.toks fun b o hb e => he b o (fun q => hb (by simp [q])) e⟩
  self := fun i s Q E hst hQ => pyIter_rev hst hQ
end
end Mine

set_option linter.unusedVariables false
set_option autoImplicit false
namespace Mine
open PySem PySem.Calls PyProof.Rows PySem.SeqAt PySem.W

def IterOk (C : Cx) (F : Fm) (ρ : Loc) (σ : Store) (s : Shared) (target : Expr) (K : Store → (Store → Prop) → List V → Prop) (v : Value) (s' : Shared) : Prop :=
  ∃ (σ1 : Store) (J : Addr) (fp : List Addr) (src : Heap → Prop) (ok : Store → Prop) (items : List V) (St : Nat → Heap → Prop), v = .ref J ∧ Inv C F ρ σ1 s' ∧ Stp F σ σ1 s.heap s'.heap ∧
    (∀ A : Around, A.handled = none → Turns C A target J fp src items St) ∧ St 0 s'.heap ∧ (∀ b ∈ fp, Away C F σ1 b ∧ s.heap.get? b = none) ∧ K σ1 ok items ∧
    (∀ F' ρ' σ' s'', Inv C F' ρ' σ' s'' → TK s'.heap s''.heap → ok σ' → src s''.heap)

theorem IterOk.trans {C : Cx} {F : Fm} {ρ : Loc} {σ σ0 : Store} {s s0 s' : Shared} {target : Expr} {K : Store → (Store → Prop) → List V → Prop} {v : Value} (S : Stp F σ0 σ s0.heap s.heap) (h : IterOk C F ρ σ s target K v s') : IterOk C F ρ σ0 s0 target K v s' :=
  by
  obtain ⟨σ1, J, fp, src, ok, items, St, h1, h2, h3, h4, h5, h6, h7⟩ := h
  refine ⟨σ1, J, fp, src, ok, items, St, h1, h2, S.trans h3, h4, h5, fun b hb => ⟨(h6 b hb).1, ?_⟩, h7⟩
  cases q : s0.heap.get? b with
  | none => rfl
  | some o => have := S.dom b (by rw [q]; rfl); rw [(h6 b hb).2] at this; cases this

section
variable {C : Cx} {D : Dm} {F : Fm} {ρ : Loc} {σ : Store} {s : Shared} {E : Value → Shared → Prop} {target : Expr} {K : Store → (Store → Prop) → List V → Prop}

/-- one new object is the iterator -/
theorem IterOk.one {o : Obj} {t : Tok} {src : Heap → Prop} {ok : Store → Prop} {items : List V} {St : Nat → Heap → Prop} (I : Inv C F ρ σ s) (hT : ∀ A : Around, A.handled = none → Turns C A target s.heap.objs.size [s.heap.objs.size] src items St)
    (h0 : St 0 (s.heap.push o)) (hK : K σ ok items) (hs : ∀ F' ρ' σ' s'', Inv C F' ρ' σ' s'' → TK (s.heap.push o) s''.heap → ok σ' → src s''.heap) :
    IterOk C F ρ σ s target K (.ref s.heap.objs.size) { s with heap := s.heap.push o, toks := t } :=
  ⟨σ, s.heap.objs.size, [s.heap.objs.size], src, ok, items, St, rfl, I.ext fun b o e => Heap.get?_push_of_some _ e, Stp.ext fun b o e => Heap.get?_push_of_some _ e, hT, h0,
    fun b hb => by rw [List.mem_singleton.mp hb]; exact ⟨I.away (Nat.le_refl _), none_at _⟩, hK, hs⟩

theorem iter_ok (hC : CxOk C) (hD : DmOk C D) {a : V} {va : Value} (I : Inv C F ρ σ s) (ra : Rel C.G s.heap a va) (h : iterS D a σ (K σ)) :
    wpAny C.M F.A (pyIter va) (IterOk C F ρ σ s target K) E s := by
  unfold iterS at h
  split at h
  · rename_i x
    simp only [Rel] at ra; obtain ⟨t, rfl⟩ := ra
    cases ha : x.cps.all (· < 128) with
    | true =>
      refine wpAny_pyIter_ascii ha (IterOk.one I (fun A hA => turnsStr (Walks.strAscii hA _ x t) fun i h st => ?_) ⟨_, Heap.get?_push_size _ rfl, rfl, rfl⟩ h fun _ _ _ _ _ _ _ => trivial)
      obtain ⟨o, ho, _, hd⟩ := st; exact ⟨o, _, ho, hd⟩
    | false =>
      refine wpAny_pyIter_wide ha (IterOk.one I (fun A hA => turnsStr (Walks.strWide hA _ x t) fun i h st => ?_) ⟨_, Heap.get?_push_size _ rfl, rfl, rfl⟩ h fun _ _ _ _ _ _ _ => trivial)
      obtain ⟨o, ho, _, hd⟩ := st; exact ⟨o, _, ho, hd⟩
  · rename_i vs
    obtain ⟨ax, items, rfl, ht, hr⟩ := relTup ra
    have hlt : ax < s.heap.objs.size := let ⟨o, h1, _⟩ := ht; Heap.lt_size h1
    refine wpAny_pyIter_tuple ht (IterOk.one I (fun A hA => turnsTuple hA (Nat.ne_of_lt hlt) vs) ⟨_, Heap.get?_push_size _ rfl, rfl, rfl⟩ h fun _ _ _ s'' _ tk _ => ?_)
    obtain ⟨o, ho, hc, n, hd⟩ := ht
    have tk' : TK s.heap s''.heap := (TK.push _ _).trans tk
    exact ⟨items, ⟨o, tk' _ _ ho ⟨hc, _, _, hd⟩, hc, n, hd⟩, hr.mono tk'⟩
  · rename_i ax
    split at h
    · rename_i vs hd
      simp only [Rel] at ra; subst ra
      obtain ⟨items, hl, hr⟩ := relList I hd
      have hlt : ax < s.heap.objs.size := let ⟨o, h1, _⟩ := hl; Heap.lt_size h1
      exact wpAny_pyIter_list hl (IterOk.one I (fun A hA => turnsList hA (Nat.ne_of_lt hlt) vs) ⟨_, Heap.get?_push_size _ rfl, rfl, rfl⟩ h fun F' ρ' σ' s'' I'' _ hk => relList I'' hk)
    · exact h.elim
  · simp only [Rel] at ra; subst ra
    obtain ⟨items, hl, hr⟩ := hC.scr
    have hl' : s.heap.IsList C.G.scr items := hl.at fun o e => I.keep0 _ o e
    have hlt : C.G.scr < s.heap.objs.size := let ⟨o, h1, _⟩ := hl'; Heap.lt_size h1
    rw [hD.G] at h
    exact wpAny_pyIter_list hl' (IterOk.one I (fun A hA => turnsList hA (Nat.ne_of_lt hlt) _) ⟨_, Heap.get?_push_size _ rfl, rfl, rfl⟩ h fun F' ρ' σ' s'' I'' _ hk => ⟨items, hl.at fun o e => I''.keep0 _ o e, hr.mono (TK.of_keep I''.keep0)⟩)
  · exact h.elim

theorem notStarred {e : Expr} {sc : Sc} {Q : QV} {X : XP} (h : wpE D e sc ρ σ Q X) : ∀ v p, e ≠ .Starred v p := by
  rintro v p rfl
  exact (show False from h)


theorem head_ok (hC : CxOk C) (hD : DmOk C D) {it : Expr} (he : SndE C D (headOf it).2) {sc : Sc} {X : XP} (hF : FmOk C F D.lvl) (hs : ScOk sc F.env) (hk : headOk D.ge sc (headOf it).1)
    (hw : wpE D (headOf it).2 sc ρ σ (fun v σ1 => headS D (headOf it).1 v σ1 (K σ1)) X) (I : Inv C F ρ σ s) (hE : EOk C F ρ X E) :
    wpAny C.M F.A (eval it F.env) (fun x s1 => wpAny C.M F.A (pyIter x) (IterOk C F ρ σ s target K) E s1) E s := by
  have plain : headOf it = (.plain, it) → wpAny C.M F.A (eval it F.env) (fun x s1 => wpAny C.M F.A (pyIter x) (IterOk C F ρ σ s target K) E s1) E s := by
    intro e
    rw [e] at he hw
    refine bindE he hF hs hw I hE fun v s1 x σ1 I1 S1 r1 q1 => ?_
    exact wpAny_mono (iter_ok hC hD I1 r1 q1) (fun _ _ o => o.trans S1) fun _ _ x => x
  have word : ∀ (n : String) (e : Expr) (p q : Pos) (hd : Hd), it = .Call (.Name (Str.ofString n) p) [e] [] q → headOf it = (hd, e) → nameS D.ge sc ρ (Str.ofString n) = some (.typ n) →
      (∀ v s1 x σ1, Inv C F ρ σ1 s1 → Rel C.G s1.heap x v → headS D hd x σ1 (K σ1) → wpAny C.M F.A (call (.type n) [v] []) (fun x s2 => wpAny C.M F.A (pyIter x) (IterOk C F ρ σ1 s1 target K) E s2) E s1) →
      wpAny C.M F.A (eval it F.env) (fun x s1 => wpAny C.M F.A (pyIter x) (IterOk C F ρ σ s target K) E s1) E s := by
    intro n e p q hd hit hh hn hcall
    rw [hh] at he hw
    subst hit
    have hns := notStarred hw
    have hp : plainArgs [e] = true := by cases e <;> first | rfl | exact absurd rfl (hns _ _)
    refine wpAny_Call_NameR (nameS_ok hC hD F sc ρ σ s hF hs I hn fun u r => ?_)
    simp only [Rel] at r; subst r
    have hany := plainArgs_any (pos := q) (env := F.env) hp
    have hL : SndL C D [e] := sndL_cons he sndL_nil hns
    refine PyProof.Rows.callWith_type hany (evalArgs_ok (Q := fun vs σ1 => ∃ x, vs = [x] ∧ headS D hd x σ1 (K σ1)) hL hp hF hs ?_ I hE fun vs s1 o => ?_)
    · rw [wpL_cons]; simp only [wpL_nil]
      have : ∀ x σ1, (∃ y, [x] = [y] ∧ headS D hd y σ1 (K σ1)) ↔ headS D hd x σ1 (K σ1) := by
        intro x σ1; constructor
        · rintro ⟨y, e, h⟩; cases e; exact h
        · intro h; exact ⟨x, rfl, h⟩
      simp only [this]; exact hw
    · obtain ⟨xs, σ1, I1, S1, r1, x, rfl, q1⟩ := o
      obtain ⟨v, vs', rfl, r2, r3⟩ := r1.split
      rw [r3.nil']
      exact wpAny_mono (hcall v s1 x σ1 I1 r2 q1) (fun _ _ o => wpAny_mono o (fun _ _ o => o.trans S1) fun _ _ x => x) fun _ _ x => x
  unfold headOf at hk
  split at hk
  · rename_i n p e q
    split at hk
    · rename_i hn
      subst hn
      have hh : headOf (.Call (.Name "range" p) [e] [] q) = (.range, e) := by simp [headOf]
      refine word "range" e p q .range rfl hh ?_ ?_
      · show nameS D.ge sc ρ "range" = _
        unfold nameS; rw [hk.1]; exact hk.2
      · intro v s1 x σ1 I1 r1 q1
        obtain ⟨k, rfl, h1, h2, h3⟩ := q1
        simp only [Rel] at r1; obtain ⟨t, rfl⟩ := r1
        refine call_range_1 (wpAny_pyIter_range (IsRange.new ..) (small_one (by omega) (by omega) h1 h2) ?_)
        rw [rangeSize_one]
        have I2 : Inv C F ρ σ1 { s1 with heap := s1.heap.push { cls := .type "range", data := .fields #[.int 0 s1.toks, .int k t, .int 1 (s1.toks + 1)] }, toks := s1.toks + 1 + 1 } := I1.ext fun b o e => Heap.get?_push_of_some _ e
        refine IterOk.trans (Stp.ext fun b o e => Heap.get?_push_of_some _ e) (IterOk.one (t := s1.toks + 1 + 1) I2 (fun A hA => turnsRange hA k.toNat) ?_ h3 fun _ _ _ _ _ _ _ => trivial)
        have e : ((if 0 < k then k - 0 else 0) : Int) = (k.toNat : Int) - ((0 : Nat) : Int) := by split <;> omega
        show IsRangeIter _ _ (0 + ((0 : Nat) : Int) * 1) ((k.toNat : Int) - ((0 : Nat) : Int)) 1
        rw [← e]
        exact Heap.get?_push_size _ rfl
    · split at hk
      · rename_i hn
        subst hn
        have hh : headOf (.Call (.Name "enumerate" p) [e] [] q) = (.enumerate, e) := by simp [headOf, *]
        refine word "enumerate" e p q .enumerate rfl hh ?_ ?_
        · show nameS D.ge sc ρ "enumerate" = _
          unfold nameS; rw [hk.1]; exact hk.2
        · intro v s1 x σ1 I1 r1 q1
          exact q1.elim
      · split at hk
        · rename_i hn
          subst hn
          have hh : headOf (.Call (.Name "reversed" p) [e] [] q) = (.reversed, e) := by simp [headOf, *]
          refine word "reversed" e p q .reversed rfl hh ?_ ?_
          · show nameS D.ge sc ρ "reversed" = _
            unfold nameS; rw [hk.1]; exact hk.2
          · intro v s1 x σ1 I1 r1 q1
            unfold headS at q1
            simp only at q1
            split at q1
            · rename_i x
              simp only [Rel] at r1; obtain ⟨t, rfl⟩ := r1
              refine call_rev_str (by have := q1.1; omega) (pyIter_rev (Heap.get?_push_size _ rfl) (IterOk.one (t := s1.toks + 1 + 1) I1 (fun A hA => turnsRevStr hA x t q1.1) ?_ q1.2 fun _ _ _ _ _ _ _ => trivial))
              show IsRevI _ _ _ ((x.length : Int) - 1 - ((0 : Nat) : Int))
              have : (x.length : Int) - 1 - ((0 : Nat) : Int) = (x.length : Int) - 1 := by omega
              rw [this]
              exact Heap.get?_push_size _ rfl
            · rename_i vs
              obtain ⟨ax, items, rfl, ht, hr⟩ := relTup r1
              have hlt : ax < s1.heap.objs.size := let ⟨o, h1, _⟩ := ht; Heap.lt_size h1
              have hlen : items.size = vs.length := by have := hr.length; simpa using this
              refine call_rev_tuple ht (by have := q1.1; omega) (pyIter_rev (Heap.get?_push_size _ rfl) (IterOk.one (t := s1.toks + 1 + 1) I1 (fun A hA => turnsRevTuple hA (Nat.ne_of_lt hlt) vs q1.1) ?_ q1.2 fun _ _ _ s'' _ tk _ => ?_))
              · show IsRevI _ _ _ ((vs.length : Int) - 1 - ((0 : Nat) : Int))
                have : (vs.length : Int) - 1 - ((0 : Nat) : Int) = (items.size : Int) - 1 := by omega
                rw [this]
                exact Heap.get?_push_size _ rfl
              · obtain ⟨o, ho, hc, n, hd⟩ := ht
                have tk' : TK s1.heap s''.heap := (TK.push _ _).trans tk
                exact ⟨items, ⟨o, tk' _ _ ho ⟨hc, _, _, hd⟩, hc, n, hd⟩, hr.mono tk'⟩
            · exact q1.elim
        · exact plain (by simp [headOf, *])
  · exact plain (by unfold headOf; split <;> first | rfl | (rename_i h; exact absurd rfl (h _ _ _ _)))
end
end Mine

set_option linter.unusedVariables false
set_option autoImplicit false
namespace Mine
open PySem PySem.Calls PyProof.Rows PySem.SeqAt PySem.W

section
variable {C : Cx} {F F' : Fm} {ρ ρ' : Loc} {σ σ' : Store} {s s' : Shared} {n : Nat}

/-- back in the frame that called -/
theorem Inv.back (I : Inv C F ρ σ s) (hF : FmOk C F n) (J : Inv C F' ρ' σ' s') {fp : List Addr} (hfp : ∀ b ∈ fp, Away C F σ b ∧ σ' b = none ∧ ∀ o, s.heap.get? b = some o → ¬ TupO o) (hhe : ∀ b, b ∉ fp → F'.he.get? b = s.heap.get? b) (hσ : F'.σe = σ)
    (hfr : ∀ b ∈ frs F'.fs, b ∈ frs F.fs ∨ s.heap.get? b = none) (hsub : ∀ b ∈ frs F.fs, b ∈ frs F'.fs)
    (hframes : s'.heap.FunFrames C.s0.heap F.fs) : Inv C F ρ σ' s' ∧ ∀ σ0 h0, Stp F σ0 σ h0 s.heap → (∀ b ∈ fp, h0.get? b = none) → Stp F σ0 σ' h0 s'.heap := by
  have kept : ∀ b o, b ∉ fp → s.heap.get? b = some o → σ b = none → b ∉ frs F.fs → s'.heap.get? b = some o := fun b o hb e h1 h2 => J.kept b o (by rw [hhe b hb]; exact e) (by rw [hσ]; exact h1) fun q => by
    rcases hfr b q with h | h
    · exact h2 h
    · rw [e] at h; cases h
  have ns : ∀ b ∈ frs F.fs, ∀ m, s.heap.Ns b m → s'.heap.Ns b m := fun b hb m hm => by
    have hbf : b ∉ fp := fun q => (hfp b q).1.fr hb
    have hm' : F'.he.Ns b m := hm.at' fun o e => by rw [hhe b hbf]; exact e
    refine J.ns b (hsub b hb) (fun q => ?_) m hm'
    have := (J.ownNew b q).2
    obtain ⟨o, ho, _⟩ := Ns.notTup hm'
    rw [this] at ho; cases ho
  have notSt : ∀ b o, s.heap.get? b = some o → TupO o → σ b = none := fun b o e t => by
    cases q : σ b with
    | none => rfl
    | some c => obtain ⟨o', ho, hn⟩ := (I.sto b c q).1.obj; rw [e] at ho; cases ho; exact absurd t hn
  have notFr : ∀ b o, s.heap.get? b = some o → TupO o → b ∉ frs F.fs := fun b o e t q => by
    obtain ⟨m, hm⟩ := I.frNs b q
    obtain ⟨o', ho, hn⟩ := Ns.notTup hm
    rw [e] at ho; cases ho
    obtain ⟨_, xs, k, hd⟩ := t
    exact hn xs k hd
  have tk : TK s.heap s'.heap := fun b o e t => kept b o (fun q => (hfp b q).2.2 o e t) e (notSt b o e t) (notFr b o e t)
  have new : ∀ b, σ b = none → (σ' b).isSome = true → s.heap.get? b = none := fun b h1 h2 => by
    have h3 := J.new b (by rw [hσ]; exact h1) h2
    by_cases q : b ∈ fp
    · rw [(hfp b q).2.1] at h2; cases h2
    · rw [← hhe b q]; exact h3
  have dom : ∀ b, b ∉ fp → (s.heap.get? b).isSome = true → (s'.heap.get? b).isSome = true := fun b hb h => J.dom b (by rw [hhe b hb]; exact h)
  have ownKeep : ∀ b ∈ F.own, σ b = none := fun b hb => by
    cases q : σ b with
    | none => rfl
    | some c => exact absurd hb (I.sto b c q).2.2.1
  have ownFp : ∀ b ∈ F.own, b ∉ fp := fun b hb q => (hfp b q).1.own hb
  have locNs : ∀ m, s.heap.Ns F.env.locals m → s'.heap.Ns F.env.locals m := fun m hm => by
    by_cases q : F.env.locals ∈ frs F.fs
    · exact ns _ q m hm
    · exact hm.at' fun o e => kept _ o (ownFp _ I.lo) e (ownKeep _ I.lo) q
  refine ⟨?_, fun σ0 h0 S hf => ?_⟩
  · exact
    { same := J.same
      keep0 := J.keep0
      frames := hframes
      frNs := fun b hb => let ⟨m, hm⟩ := I.frNs b hb; ⟨m, ns b hb m hm⟩
      loc := let ⟨m, hm, hr⟩ := I.loc; ⟨m, locNs m hm, fun x v e k => let ⟨u, h1, h2⟩ := hr x v e k; ⟨u, h1, h2.mono tk⟩⟩
      cel := fun x c e => by
        obtain ⟨u, ⟨o, ho, hd⟩, h2⟩ := I.cel x c e
        refine ⟨u, ⟨o, kept c o (fun q => (hfp c q).1.cells x e) ho ?_ (hF.cellApart x c e).2, hd⟩, fun v q k => let ⟨u', h3, h4⟩ := h2 v q k; ⟨u', h3, h4.mono tk⟩⟩
        cases q : σ c with
        | none => rfl
        | some cc => exact absurd e ((I.sto c cc q).2.2.2.2.1 x)
      sto := fun a c e => by
        obtain ⟨h1, h2, _, _, _, h6⟩ := J.sto a c e
        cases q : σ a with
        | some c0 => obtain ⟨_, g2, g3, g4, g5, g6⟩ := I.sto a c0 q; exact ⟨h1, h2, g3, g4, g5, h6⟩
        | none =>
          have hn := new a q (by rw [e]; rfl)
          refine ⟨h1, h2, ?_, ?_, ?_, h6⟩
          · intro hb; obtain ⟨o, ho, _⟩ := I.ownObj a hb; rw [hn] at ho; cases ho
          · intro hb; obtain ⟨m, hm⟩ := I.frNs a hb; obtain ⟨o, ho, _⟩ := Ns.notTup hm; rw [hn] at ho; cases ho
          · intro x hx; obtain ⟨u, ⟨o, ho, _⟩, _⟩ := I.cel x a hx; rw [hn] at ho; cases ho
      ownNew := I.ownNew
      ownObj := fun b hb => by
        obtain ⟨o, ho, hn⟩ := I.ownObj b hb
        by_cases q : b ∈ frs F.fs
        · obtain ⟨m, hm⟩ := I.frNs b q; exact Ns.notTup (ns b q m hm)
        · exact ⟨o, kept b o (ownFp b hb) ho (ownKeep b hb) q, hn⟩
      kept := fun b o e h1 h2 => by
        refine kept b o (fun q => by rw [(hfp b q).1.he] at e; cases e) (I.kept b o e h1 h2) ?_ h2
        cases q : σ b with
        | none => rfl
        | some c => have := I.new b h1 (by rw [q]; rfl); rw [e] at this; cases this
      ns := fun b hb ho m hm => ns b hb m (I.ns b hb ho m hm)
      new := fun b h1 h2 => by
        cases q : σ b with
        | some c => exact I.new b h1 (by rw [q]; rfl)
        | none =>
          have hn := new b q h2
          cases r : F.he.get? b with
          | none => rfl
          | some o => have := I.dom b (by rw [r]; rfl); rw [hn] at this; cases this
      dom := fun b h => dom b (fun q => by rw [(hfp b q).1.he] at h; cases h) (I.dom b h)
      lo := I.lo
      st2 := J.st2 }
  · have nf : ∀ b, (h0.get? b).isSome = true → b ∉ fp := fun b h q => by rw [hf b q] at h; cases h
    exact
    { exact := fun b o e h1 h2 h3 => by
        refine kept b o (nf b (by rw [e]; rfl)) (S.exact b o e h1 h2 h3) ?_ h3
        cases q : σ b with
        | none => rfl
        | some c => have := S.new b h1 (by rw [q]; rfl); rw [e] at this; cases this
      tk := S.tk.trans tk
      new := fun b h1 h2 => by
        cases q : σ b with
        | some c => exact S.new b h1 (by rw [q]; rfl)
        | none =>
          have hn := new b q h2
          cases r : h0.get? b with
          | none => rfl
          | some o => have := S.dom b (by rw [r]; rfl); rw [hn] at this; cases this
      dom := fun b h => dom b (nf b h) (S.dom b h) }

/-- a hidden object becomes a cell -/
theorem Inv.adopt (I : Inv C F ρ σ s) {a : Addr} {c : Cell} (ha : Away C F σ a) (hm : a ≠ sysModules) (hc : CellRel C s.heap a c) : Inv C F ρ (σ.set a c) s :=
  { I with
    sto := fun b cb e => by
      by_cases q : b = a
      · subst q
        rw [Store.set_same] at e; cases e
        exact ⟨hc, ha.s0, ha.own, ha.fr, ha.cells, hm⟩
      · rw [Store.set_ne q] at e
        exact I.sto b cb e
    new := fun b e e' => by
      rcases Store.set_isSome e' with rfl | e'
      · exact ha.he
      · exact I.new b e e' }
theorem Stp.adopt {a : Addr} {c : Cell} {h h' : Heap} (S : Stp F σ σ' h h') (ha : h.get? a = none) : Stp F σ (σ'.set a c) h h' :=
  { S with
    new := fun b e e' => by
      rcases Store.set_isSome e' with rfl | e'
      · exact ha
      · exact S.new b e e' }

/-- a change at an address that nobody speaks of -/
theorem Inv.asides (I : Inv C F ρ σ s) {fp : List Addr} {h' : Heap} (hb : ∀ b ∈ fp, Away C F σ b) (hn : ∀ b ∈ fp, ∀ o, s.heap.get? b = some o → ¬ TupO o) (kb : ∀ a o, a ∉ fp → s.heap.get? a = some o → h'.get? a = some o) {t : Tok} :
    Inv C F ρ σ { s with heap := h', toks := t } ∧ TK s.heap h' := by
  have tk : TK s.heap h' := fun b o e ht => kb b o (fun q => hn b q o e ht) e
  refine ⟨?_, tk⟩
  exact
    { same := let ⟨h, t', e⟩ := I.same; ⟨h', t, by rw [e]⟩
      keep0 := fun a o e => kb a o (fun q => by rw [(hb a q).s0] at e; cases e) (I.keep0 a o e)
      frames := by
        have gen : ∀ (l : List Env), (∀ b ∈ fp, b ∉ frs l) → s.heap.FunFrames C.s0.heap l → h'.FunFrames C.s0.heap l := by
          intro l
          induction l with
          | nil => intro _ _; trivial
          | cons env rest ih =>
            rintro hn ⟨hk, ⟨L, o, hf, hn', ho, hd⟩, hr⟩
            have hn2 : ∀ b ∈ fp, b ∉ L :: frs rest := by
              have : frs (env :: rest) = L :: frs rest := by simp [frs, hf]
              rw [this] at hn; exact hn
            exact ⟨hk, ⟨L, o, hf, hn', kb L o (fun q => hn2 L q (.head _)) ho, hd⟩, ih (fun b hb q => hn2 b hb (.tail _ q)) hr⟩
        exact gen F.fs (fun b hb' => (hb b hb').fr) I.frames
      frNs := fun a ha => let ⟨m, hm⟩ := I.frNs a ha; ⟨m, hm.at' fun o e => kb a o (fun q => (hb a q).fr ha) e⟩
      loc := let ⟨m, hm, hr⟩ := I.loc; ⟨m, hm.at' fun o e => kb _ o (fun q => (hb _ q).own I.lo) e, fun x v e k => let ⟨u, h1, h2⟩ := hr x v e k; ⟨u, h1, h2.mono tk⟩⟩
      cel := fun x c e => let ⟨u, ⟨o, ho, hd⟩, h2⟩ := I.cel x c e; ⟨u, ⟨o, kb c o (fun q => (hb c q).cells x e) ho, hd⟩, fun v q k => let ⟨u', h3, h4⟩ := h2 v q k; ⟨u', h3, h4.mono tk⟩⟩
      sto := fun a c e => let ⟨h1, h2⟩ := I.sto a c e; ⟨h1.at tk fun o q => kb a o (fun z => by rw [(hb a z).st] at e; cases e) q, h2⟩
      ownNew := I.ownNew
      ownObj := fun a ha => let ⟨o, h1, h2⟩ := I.ownObj a ha; ⟨o, kb a o (fun q => (hb a q).own ha) h1, h2⟩
      kept := fun a o e h1 h2 => kb a o (fun q => by rw [(hb a q).he] at e; cases e) (I.kept a o e h1 h2)
      ns := fun a ha hc m hm => (I.ns a ha hc m hm).at' fun o e => kb a o (fun q => (hb a q).fr ha) e
      new := I.new
      dom := fun a h => by
        have := I.dom a h
        cases r : s.heap.get? a with
        | none => rw [r] at this; cases this
        | some o => show (h'.get? a).isSome = true; rw [kb a o (fun q => by rw [(hb a q).he] at h; cases h) r]; rfl
      lo := I.lo
      st2 := by
        have := I.st2
        cases r : s.heap.get? cStatics with
        | none => rw [r] at this; cases this
        | some o => show (h'.get? cStatics).isSome = true; rw [kb _ o (fun q => (hb _ q).ne2 rfl) r]; rfl }
theorem Stp.asides {fp : List Addr} {h h' h'' : Heap} (S : Stp F σ σ' h h') (fresh : ∀ b ∈ fp, h.get? b = none) (hn : TK h' h'') (k : ∀ b o, b ∉ fp → h'.get? b = some o → h''.get? b = some o) : Stp F σ σ' h h'' where
  exact := fun b o e h1 h2 h3 => k b o (fun q => by rw [fresh b q] at e; cases e) (S.exact b o e h1 h2 h3)
  tk := S.tk.trans hn
  new := S.new
  dom := fun b e => by
    have := S.dom b e
    cases r : h'.get? b with
    | none => rw [r] at this; cases this
    | some o => rw [k b o (fun q => by rw [fresh b q] at e; cases e) r]; rfl

/-- away stays away -/
theorem Away.step {b : Addr} {h h' : Heap} (hb : Away C F σ b) (S : Stp F σ σ' h h') (hl : (h.get? b).isSome = true) : Away C F σ' b :=
  { hb with
    st := by
      cases q : σ' b with
      | none => rfl
      | some c => have := S.new b hb.st (by rw [q]; rfl); rw [this] at hl; cases hl }
theorem Away.keep {b : Addr} {h h' : Heap} {o : Obj} (hb : Away C F σ b) (S : Stp F σ σ' h h') (ho : h.get? b = some o) : h'.get? b = some o := S.exact b o ho hb.st hb.own hb.fr

/-! binding -/
def OwnCells (F : Fm) (sc : Sc) : Prop := ∀ x, sc x = some .cell → ∃ c, F.env.cells.lookup x = some c ∧ c ∈ F.own
def OkA (C : Cx) (F : Fm) (ρ' : Loc) (σ : Store) (s s' : Shared) : Prop := Inv C F ρ' σ s' ∧ Stp F σ σ s.heap s'.heap

theorem storeName_ok {A : Around} {sc : Sc} {x : Str} {v : V} {u : Value} {E : Value → Shared → Prop} (hF : FmOk C F n) (hs : ScOk sc F.env) (ho : OwnCells F sc) (hx : sc x = some .local ∨ sc x = some .cell) (I : Inv C F ρ σ s) (r : Rel C.G s.heap v u) :
    wpAny C.M A (storeName F.env x u) (fun _ s' => OkA C F (ρ.set x v) σ s s') E s := by
  rcases hx with hx | hx
  · have hk : F.env.kindOf x = some .local := by
      rcases hs x with q | ⟨q, _⟩
      · rw [← q, hx]
      · rw [hx] at q; cases q
    obtain ⟨m, hm, hr⟩ := I.loc
    refine wpAny_storeName_local hk hm (fun h' hn' hs' => ?_) (by rw [hF.kind]; rfl)
    refine I.setLocal hk (fun c hc => ?_) r hs' hm hr ?_ fun y c e => (hF.cellApart y c e).1
    · rcases hF.cellsKind x c hc with q | q <;> rw [q] <;> simp
    · exact hn'
  · have hk : F.env.kindOf x = some .cell := by
      rcases hs x with q | ⟨q, _⟩
      · rw [← q, hx]
      · rw [hx] at q; cases q
    obtain ⟨c, hc, hown⟩ := ho x hx
    obtain ⟨u0, h1, _⟩ := I.cel x c hc
    refine wpAny_storeName_cell hF.kind hk hc h1 fun h' hc' hs' => ?_
    exact I.setCell (t := s.toks) hk hc hown hF.cellInj (hF.cellApart x c hc).2 (hF.cellApart x c hc).1 r hs' hc'

theorem bindNames_cons {sc : Sc} {t : Expr} {ts : List Expr} {vs : List V} {ρ ρ' : Loc} (h : bindNames sc (t :: ts) vs ρ = some ρ') :
    ∃ x p v vs', t = .Name x p ∧ vs = v :: vs' ∧ (sc x = some .local ∨ sc x = some .cell) ∧ bindNames sc ts vs' (ρ.set x v) = some ρ' := by
  cases t
  case Name x p =>
    cases vs with
    | nil => simp [bindNames] at h
    | cons v vs =>
      simp only [bindNames] at h
      split at h
      · exact ⟨x, p, v, vs, rfl, rfl, ‹_›, h⟩
      · cases h
  all_goals (simp [bindNames] at h)

theorem bindNames_ok {sc : Sc} {E : Value → Shared → Prop} (hF : FmOk C F n) (hs : ScOk sc F.env) (ho : OwnCells F sc) : ∀ {ts : List Expr} {vs : List V} {us : List Value} {ρ ρ' : Loc} {s : Shared}, bindNames sc ts vs ρ = some ρ' → Inv C F ρ σ s → RelL C.G s.heap vs us →
    wpAny C.M F.A (assignInOrder ((assignEach ts F.env).map (·.2)) us) (fun _ s' => OkA C F ρ' σ s s') E s
  | [], vs, us, ρ, ρ', s, h, I, r => by
    cases vs with
    | nil => simp [bindNames] at h; subst h; exact assignInOrder_nil ⟨I, Stp.refl _ _ _⟩
    | cons => simp [bindNames] at h
  | t :: ts, vs, us, ρ, ρ', s, h, I, r => by
    obtain ⟨x, p, v, vs', rfl, rfl, hx, h⟩ := bindNames_cons h
    obtain ⟨u, us, rfl, r1, r2⟩ := r.split
    show wpAny _ _ (assignInOrder (assign (.Name x p) F.env :: (assignEach ts F.env).map (·.2)) (u :: us)) _ _ _
    refine assignInOrder_cons (wpAny_assign_Name (wpAny_mono (storeName_ok hF hs ho hx I r1) (fun _ s1 o => ?_) fun _ _ x => x))
    exact wpAny_mono (bindNames_ok hF hs ho h o.1 (r2.mono o.2.tk)) (fun _ s2 o2 => ⟨o2.1, o.2.trans o2.2⟩) fun _ _ x => x

theorem assign_ok {sc : Sc} {t : Expr} {v : V} {u : Value} {E : Value → Shared → Prop} (hF : FmOk C F n) (hs : ScOk sc F.env) (ho : OwnCells F sc) (h : bindS sc t v ρ = some ρ') (I : Inv C F ρ σ s) (r : Rel C.G s.heap v u) :
    wpAny C.M F.A (assign t F.env u) (fun _ s' => OkA C F ρ' σ s s') E s := by
  unfold bindS at h
  split at h
  · split at h
    · cases h; exact wpAny_assign_Name (storeName_ok hF hs ho ‹_› I r)
    · cases h
  · split at h
    · rename_i ts _ _ vs
      obtain ⟨a, items, rfl, ht, hr⟩ := relTup r
      have hnm : ∀ {ts : List Expr} {vs : List V} {ρ : Loc}, bindNames sc ts vs ρ = some ρ' → (assignEach ts F.env).length = vs.length ∧ (assignEach ts F.env).findIdx? (·.1) = none := by
        intro ts
        induction ts with
        | nil => intro vs ρ h; cases vs <;> simp [bindNames] at h; exact ⟨rfl, rfl⟩
        | cons t ts ih =>
          intro vs ρ h
          obtain ⟨x, p, v, vs', rfl, rfl, hx, h⟩ := bindNames_cons h
          obtain ⟨h1, h2⟩ := ih h
          show (((false, assign (.Name x p) F.env) :: assignEach ts F.env).length = _) ∧ _
          refine ⟨by simp [h1], ?_⟩
          show List.findIdx? (·.1) ((false, assign (.Name x p) F.env) :: assignEach ts F.env) = none
          simp [List.findIdx?_cons, h2]
      obtain ⟨h1, h2⟩ := hnm h
      have hsz : items.size = vs.length := by have := hr.length; simpa using this
      refine wpAny_assign_Tuple hF.handled ht (by rw [h1, hsz]) h2 fun h' he => ?_
      have k : ∀ b o, s.heap.get? b = some o → h'.get? b = some o := fun b o e => he b o (Nat.ne_of_lt (Heap.lt_size e)) e
      have I' : Inv C F ρ σ { s with heap := h' } := I.ext k
      exact wpAny_mono (bindNames_ok hF hs ho h I' (hr.mono (TK.of_keep k))) (fun _ s2 o2 => ⟨o2.1, (Stp.ext k).trans o2.2⟩) fun _ _ x => x
    · cases h
  · cases h
end
end Mine

set_option linter.unusedVariables false
set_option autoImplicit false
namespace Mine
open PySem PySem.Calls PyProof.Rows PySem.SeqAt PySem.W

def RelF (G : Gl) (h : Heap) : Fl → Flow → Prop
  | .next, f => f = .next
  | .brk, f => f = .brk
  | .cont, f => f = .cont
  | .ret v, f => ∃ u, f = .ret u ∧ Rel G h v u
def StpF (F : Fm) (fl : Fl) (σ σ' : Store) (h h' : Heap) : Prop := match fl with
  | .ret _ => True
  | _ => Stp F σ σ' h h'
def OkS (C : Cx) (F : Fm) (σ : Store) (s : Shared) (Q : QS) (f : Flow) (s' : Shared) : Prop :=
  ∃ fl ρ' σ', Inv C F ρ' σ' s' ∧ StpF F fl σ σ' s.heap s'.heap ∧ RelF C.G s'.heap fl f ∧ Q fl ρ' σ'
theorem OkS.trans {C : Cx} {F : Fm} {σ σ1 : Store} {s s1 s' : Shared} {Q : QS} {f : Flow} (S : Stp F σ σ1 s.heap s1.heap) (h : OkS C F σ1 s1 Q f s') : OkS C F σ s Q f s' :=
  by
  obtain ⟨fl, ρ', σ', I, S', r, q⟩ := h
  refine ⟨fl, ρ', σ', I, ?_, r, q⟩
  cases fl with
  | ret v => trivial
  | next => exact S.trans S'
  | brk => exact S.trans S'
  | cont => exact S.trans S'

def SndS (C : Cx) (D : Dm) (st : Stmt) : Prop := ∀ (F : Fm) (sc : Sc) (ρ : Loc) (σ : Store) (Q : QS) (X : XP) (s : Shared) (E : Value → Shared → Prop),
  FmOk C F D.lvl → ScOk sc F.env → OwnCells F sc → FrTop F → wpS D st sc ρ σ Q X → Inv C F ρ σ s → (∀ ρ, EOkS C F ρ X E) → PassesOwn C.M F.A F.env E → wpAny C.M F.A (exec st F.env) (OkS C F σ s Q) E s
def SndSs (C : Cx) (D : Dm) (sts : List Stmt) : Prop := ∀ (F : Fm) (sc : Sc) (ρ : Loc) (σ : Store) (Q : QS) (X : XP) (s : Shared) (E : Value → Shared → Prop),
  FmOk C F D.lvl → ScOk sc F.env → OwnCells F sc → FrTop F → wpSs D sts sc ρ σ Q X → Inv C F ρ σ s → (∀ ρ, EOkS C F ρ X E) → PassesOwn C.M F.A F.env E → wpAny C.M F.A (execs sts F.env) (OkS C F σ s Q) E s

section
variable {C : Cx} {D : Dm}

theorem sndSs_nil : SndSs C D [] := fun F sc ρ σ Q X s E hF hs ho hft h I hE hP => by
  rw [wpSs_nil] at h
  exact wpAny_execs_nil ⟨.next, ρ, σ, I, Stp.refl _ _ _, rfl, h⟩
theorem sndSs_cons {st : Stmt} {r : List Stmt} (h1 : SndS C D st) (h2 : SndSs C D r) : SndSs C D (st :: r) := fun F sc ρ σ Q X s E hF hs ho hft h I hE hP => by
  rw [wpSs_cons] at h
  refine wpAny_execs_cons (wpAny_mono (h1 F sc ρ σ _ X s E hF hs ho hft h I hE hP) (fun f s1 o => ?_) fun _ _ x => x)
  obtain ⟨fl, ρ1, σ1, I1, S1, r1, q1⟩ := o
  cases fl with
  | next => cases r1; have S1 : Stp F σ σ1 s.heap s1.heap := S1; exact wpAny_mono (h2 F sc ρ1 σ1 Q X s1 E hF hs ho hft q1 I1 hE hP) (fun _ _ o => o.trans S1) fun _ _ x => x
  | brk => cases r1; exact ⟨.brk, ρ1, σ1, I1, S1, rfl, q1⟩
  | cont => cases r1; exact ⟨.cont, ρ1, σ1, I1, S1, rfl, q1⟩
  | ret v => obtain ⟨u, rfl, hu⟩ := r1; exact ⟨.ret v, ρ1, σ1, I1, S1, ⟨u, rfl, hu⟩, q1⟩

/-- for -/
theorem sndFor (hC : CxOk C) (hD : DmOk C D) {tgt it : Expr} {body o : List Stmt} {p : Pos} (he : SndE C D (headOf it).2) (hb : SndSs C D body) : SndS C D (.For tgt it body o p) := fun F sc ρ σ Q X s E hF hs ho hft h I hE hP => by
  rw [wpS_For] at h; unfold wpH at h
  obtain ⟨rfl, ht, hk, hns, hw⟩ := h
  refine wpAny_For (wpAny_mono (head_ok (target := tgt) (K := fun σ₁ ok items => forL (fun x ρ' σ' K => ∃ ρ'', bindS sc tgt x ρ' = some ρ'' ∧ wpSs D body sc ρ'' σ' K X) ok items ρ σ₁ Q) hC hD he hF hs hk hw I (hE ρ).1) (fun x s1 h1 => wpAny_mono h1 (fun v s2 h2 => ?_) fun _ _ x => x) fun _ _ x => x)
    (by intro x; cases it <;> first | rfl | exact absurd hns (by simp [notSet]))
  obtain ⟨σ1, J, fp, src, ok, items, St, rfl, I2, S2, hT, hst, haw, hL, hsrc⟩ := h2
  have T := hT F.A hF.handled
  refine codeAny_forLoop_any (fun k s' => ∃ i ρ' σ', k = items.length + 1 - i ∧ i ≤ items.length ∧ Inv C F ρ' σ' s' ∧ Stp F σ σ' s.heap s'.heap ∧ TK s2.heap s'.heap ∧ St i s'.heap ∧ (∀ b ∈ fp, Away C F σ' b) ∧
      forL (fun x ρ' σ' K => ∃ ρ'', bindS sc tgt x ρ' = some ρ'' ∧ wpSs D body sc ρ'' σ' K X) ok (items.drop i) ρ' σ' Q) ?_ (items.length + 1) ⟨0, ρ, σ1, rfl, Nat.zero_le _, I2, S2, TK.refl _, hst, fun b hb => (haw b hb).1, hL⟩
  rintro k s' ⟨i, ρ', σ', rfl, hi, I', S', tk', hst', haw', hL'⟩
  have hnt : ∀ b ∈ fp, ∀ o, s'.heap.get? b = some o → ¬ TupO o := fun b hb o e q => by
    obtain ⟨o', vs, ho', hd⟩ := T.live i _ hst' b hb
    rw [e] at ho'; cases ho'
    obtain ⟨_, xs, m, q⟩ := q
    rw [hd] at q; cases q
  cases hx : items[i]? with
  | none =>
    have hlen : i = items.length := Nat.le_antisymm hi (by simpa using hx)
    subst hlen
    rw [List.drop_length] at hL'
    simp only [forL] at hL'
    refine wpAny_passesOwn hP (wpAny_mono (T.done s' (fun s'' => OkS C F σ s Q .next s'') E hst' (hsrc F ρ' σ' s' I' tk' hL'.1) fun h' tk hk => ?_) (fun r s'' q => ?_) fun _ _ x => x)
    · obtain ⟨I'', tk''⟩ := I'.asides (t := tk) haw' hnt hk
      exact ⟨.next, ρ', σ', I'', S'.asides (fun b hb => (haw b hb).2) tk'' hk, rfl, hL'.2⟩
    · obtain ⟨rfl, q⟩ := q; exact wpAny_execs_nil q
  | some x =>
    have hlt : i < items.length := (List.getElem?_eq_some_iff.mp hx).1
    have hdrop : items.drop i = x :: items.drop (i + 1) := by
      rw [List.drop_eq_getElem_cons hlt]
      congr 1
      have := List.getElem?_eq_getElem hlt
      rw [this] at hx; cases hx; rfl
    rw [hdrop] at hL'
    simp only [forL] at hL'
    obtain ⟨hok, ρ'', hbind, hbody⟩ := hL'
    refine wpAny_passesOwn hP (wpAny_mono (T.turn i x s' (fun v s'' => wpAny C.M F.A (assign tgt F.env v) (fun _ s₂ => wpAny C.M F.A (execs body F.env) (fun f s₃ => match f with
            | .next | .cont => ∃ m, m < items.length + 1 - i ∧ ∃ i ρ' σ', m = items.length + 1 - i ∧ i ≤ items.length ∧ Inv C F ρ' σ' s₃ ∧ Stp F σ σ' s.heap s₃.heap ∧ TK s2.heap s₃.heap ∧ St i s₃.heap ∧ (∀ b ∈ fp, Away C F σ' b) ∧ forL (fun x ρ' σ' K => ∃ ρ'', bindS sc tgt x ρ' = some ρ'' ∧ wpSs D body sc ρ'' σ' K X) ok (items.drop i) ρ' σ' Q
            | .brk => OkS C F σ s Q .next s₃
            | .ret v => OkS C F σ s Q (.ret v) s₃) E s₂) E s'') E hx (bindable_of hbind) hst' (hsrc F ρ' σ' s' I' tk' hok) fun v h' tk hr hst'' hk => ?_) (fun r s'' q => ?_) fun _ _ x => x)
    · obtain ⟨I'', tk''⟩ := I'.asides (t := tk) haw' hnt hk
      refine wpAny_mono (assign_ok hF hs ho hbind I'' hr) (fun _ s3 o3 => ?_) fun _ _ x => x
      obtain ⟨I3, S3⟩ := o3
      refine wpAny_mono (hb F sc ρ'' σ' _ X s3 E hF hs ho hft hbody I3 hE hP) (fun f s4 o4 => ?_) fun _ _ x => x
      obtain ⟨fl, ρ4, σ4, I4, S4, r4, q4⟩ := o4
      have rest : Stp F σ' σ4 s3.heap s4.heap → Stp F σ σ4 s.heap s4.heap ∧ TK s2.heap s4.heap ∧ St (i + 1) s4.heap ∧ ∀ b ∈ fp, Away C F σ4 b := by
       intro S4
       have St' : Stp F σ σ4 s.heap s4.heap := ((S'.asides (fun b hb => (haw b hb).2) tk'' hk).trans S3).trans S4
       have lv : ∀ b ∈ fp, ∃ o, h'.get? b = some o := fun b hb => let ⟨o, _, e, _⟩ := T.live _ _ hst'' b hb; ⟨o, e⟩
       have S34 : Stp F σ' σ4 h' s4.heap := Stp.trans (h' := s3.heap) S3 S4
       have aw4 : ∀ b ∈ fp, Away C F σ4 b := fun b hb => (haw' b hb).step S34 (by obtain ⟨o, e⟩ := lv b hb; rw [e]; rfl)
       have st4 : St (i + 1) s4.heap := T.frame _ _ _ hst'' fun b hb o e => (haw' b hb).keep S34 e
       have tk4 : TK s2.heap s4.heap := (tk'.trans tk'').trans S34.tk
       exact ⟨St', tk4, st4, aw4⟩
      cases fl with
      | next => cases r4; obtain ⟨St', tk4, st4, aw4⟩ := rest S4; exact ⟨_, by omega, i + 1, ρ4, σ4, rfl, hlt, I4, St', tk4, st4, aw4, q4⟩
      | cont => cases r4; obtain ⟨St', tk4, st4, aw4⟩ := rest S4; exact ⟨_, by omega, i + 1, ρ4, σ4, rfl, hlt, I4, St', tk4, st4, aw4, q4⟩
      | brk => cases r4; exact ⟨.next, ρ4, σ4, I4, (rest S4).1, rfl, q4⟩
      | ret v => obtain ⟨u, rfl, hu⟩ := r4; exact ⟨.ret v, ρ4, σ4, I4, trivial, ⟨u, rfl, hu⟩, q4⟩
    · obtain ⟨v, rfl, q⟩ := q
      refine wpAny_passesOwn hP (wpAny_mono q (fun _ s₂ q => ?_) fun _ _ x => x)
      refine wpAny_passesOwn hP (wpAny_mono q (fun _ s₂ q => ?_) fun _ _ x => x)
      exact wpAny_passesOwn hP (wpAny_mono q (fun f s₂ q => by cases f <;> exact q) fun _ _ x => x)

/-- while -/
theorem sndWhile {t : Expr} {body o : List Stmt} {p : Pos} (ht : SndT C D t) (hb : SndSs C D body) : SndS C D (.While t body o p) := fun F sc ρ σ Q X s E hF hs ho hft h I hE hP => by
  rw [wpS_While] at h
  obtain ⟨rfl, n, h⟩ := h
  refine wpAny_While (codeAny_whileLoop (fun k s' => ∃ ρ' σ', Inv C F ρ' σ' s' ∧ Stp F σ σ' s.heap s'.heap ∧
    whileL (fun ρ' σ' K => wpE D t sc ρ' σ' (fun c σ₁ => ∃ k, c = .bool k ∧ K k σ₁) X) (fun ρ' σ' K => wpSs D body sc ρ' σ' K X) k ρ' σ' Q) ?_ n ⟨ρ, σ, I, Stp.refl _ _ _, h⟩)
  rintro k s' ⟨ρ', σ', I', S', h'⟩
  cases k with
  | zero => exact h'.elim
  | succ k =>
    simp only [whileL] at h'
    refine wpAny_passesOwn hP (wpAny_mono (ht F sc ρ' σ' _ _ X s' E hF hs h' (fun v σ₁ q => q) I' (hE ρ').1) (fun b s₂ o => ?_) fun _ _ x => x)
    obtain ⟨σ₂, I₂, S₂, q₂⟩ := o
    cases b with
    | false =>
      simp only [Bool.false_eq_true, if_false] at q₂ ⊢
      exact wpAny_execs_nil ⟨.next, ρ', σ₂, I₂, S'.trans S₂, rfl, q₂⟩
    | true =>
      simp only [if_true] at q₂ ⊢
      refine wpAny_passesOwn hP (wpAny_mono (hb F sc ρ' σ₂ _ X s₂ E hF hs ho hft q₂ I₂ hE hP) (fun f s4 o4 => ?_) fun _ _ x => x)
      obtain ⟨fl, ρ4, σ4, I4, S4, r4, q4⟩ := o4
      have S02 := S'.trans S₂
      cases fl with
      | next => cases r4; exact ⟨k, Nat.lt_succ_self _, ρ4, σ4, I4, S02.trans S4, q4⟩
      | cont => cases r4; exact ⟨k, Nat.lt_succ_self _, ρ4, σ4, I4, S02.trans S4, q4⟩
      | brk => cases r4; exact ⟨.next, ρ4, σ4, I4, S02.trans S4, rfl, q4⟩
      | ret v => obtain ⟨u, rfl, hu⟩ := r4; exact ⟨.ret v, ρ4, σ4, I4, trivial, ⟨u, rfl, hu⟩, q4⟩
end
end Mine

set_option linter.unusedVariables false
set_option autoImplicit false
namespace Mine
open PySem PySem.Calls PyProof.Rows PySem.SeqAt PySem.W

/-! a heap with holes -/
def holes (h : Heap) : List Addr → Heap
  | [] => h
  | b :: r => (holes h r).update b fun o => { o with data := .freed }
theorem holes_ne {h : Heap} {b : Addr} : ∀ {fp : List Addr}, b ∉ fp → (holes h fp).get? b = h.get? b
  | [], _ => rfl
  | a :: r, hb => by
    show ((holes h r).update a _).get? b = _
    rw [Heap.get?_update_ne _ _ _ _ (fun q => hb (by rw [q]; exact .head _)), holes_ne fun q => hb (.tail _ q)]
theorem holes_in {h : Heap} {b : Addr} : ∀ {fp : List Addr}, b ∈ fp → (holes h fp).get? b = none
  | a :: r, hb => by
    show ((holes h r).update a _).get? b = _
    by_cases q : b = a
    · subst q
      cases e : ((holes h r).update b fun o => { o with data := .freed }).get? b with
      | none => rfl
      | some o =>
        have := Heap.get?_some_iff.mp e
        exfalso
        cases hr : holes h r with
        | mk objs l =>
          rw [hr] at this
          simp only [Heap.update, Array.getElem?_modify] at this
          obtain ⟨h1, h2⟩ := this
          cases hx : objs[b]? with
          | none => simp [hx] at h1
          | some o' => simp [hx] at h1; subst h1; simp [Obj.isFreed] at h2
    · rw [Heap.get?_update_ne _ _ _ _ q]
      rcases List.mem_cons.mp hb with h | h
      · exact absurd h q
      · exact holes_in h

/-! closures -/
def closL (cells : List (Str × Addr)) : List (Str × NameKind) → List (Str × Addr) → List (Str × Addr)
  | [], cs => cs
  | (n, k) :: r, cs => closL cells r (if k == .free then (n, (cells.lookup n).getD 0) :: cs else cs)
theorem closureFor_eq {scope : Scope} {env : Env} (h : ∀ p ∈ scope.names, p.2 = .free → (env.cells.lookup p.1).isSome = true) : closureFor scope env = pure (closL env.cells scope.names []) := by
  have gen : ∀ (l : List (Str × NameKind)) (cs : List (Str × Addr)), (∀ p ∈ l, p.2 = .free → (env.cells.lookup p.1).isSome = true) →
      (forIn l cs fun x cs => (match x with | (name, kind) => if (kind == .free) = true then do let a ← cellOf env name; pure (ForInStep.yield ((name, a) :: cs)) else pure (ForInStep.yield cs) : Sem _)) = pure (closL env.cells l cs) := by
    intro l
    induction l with
    | nil => intro cs _; rfl
    | cons x r ih =>
      intro cs hl
      obtain ⟨n, k⟩ := x
      rw [List.forIn_cons]
      have hr := fun cs => ih cs fun p hp => hl p (.tail _ hp)
      by_cases hk : (k == NameKind.free) = true
      · have hs := hl (n, k) (.head _) (by simpa using hk)
        cases hc : env.cells.lookup n with
        | none => rw [hc] at hs; cases hs
        | some a =>
          have e : cellOf env n = pure a := by unfold cellOf; rw [hc]
          simp only [hk, if_true, e, pure_bind]
          rw [hr]
          simp [closL, hk, hc]
      · simp only [hk, if_false, pure_bind, Bool.false_eq_true]
        rw [hr]
        simp [closL, hk]
  have := gen scope.names [] h
  unfold closureFor
  simp only at this ⊢
  rw [this]
  rfl
theorem closL_mem {cells : List (Str × Addr)} {n : Str} {c : Addr} : ∀ {l : List (Str × NameKind)} {cs : List (Str × Addr)}, (n, c) ∈ closL cells l cs → (n, c) ∈ cs ∨ ((n, .free) ∈ l ∧ c = (cells.lookup n).getD 0)
  | [], cs, h => .inl h
  | (m, k) :: r, cs, h => by
    rcases closL_mem (l := r) h with h | ⟨h1, h2⟩
    · split at h
      · rename_i hk
        rcases List.mem_cons.mp h with h | h
        · cases h
          have : k = .free := by simpa using hk
          subst this
          exact .inr ⟨.head _, rfl⟩
        · exact .inl h
      · exact .inl h
    · exact .inr ⟨.tail _ h1, h2⟩
theorem closL_has {cells : List (Str × Addr)} {n : Str} : ∀ {l : List (Str × NameKind)} {cs : List (Str × Addr)}, ((n, .free) ∈ l ∨ ∃ c, (n, c) ∈ cs) → ∃ c, (n, c) ∈ closL cells l cs
  | [], cs, h => by
    rcases h with h | h
    · cases h
    · exact h
  | (m, k) :: r, cs, h => by
    refine closL_has (l := r) ?_
    rcases h with h | ⟨c, h⟩
    · rcases List.mem_cons.mp h with h | h
      · cases h
        exact .inr ⟨_, by simp; exact .inl rfl⟩
      · exact .inl h
    · right
      split
      · exact ⟨c, .tail _ h⟩
      · exact ⟨c, h⟩
theorem lookup_mem {α : Type} {x : Str} {c : α} : ∀ {l : List (Str × α)}, l.lookup x = some c → (x, c) ∈ l
  | [], h => by simp at h
  | (n, k) :: r, h => by
    rw [List.lookup_cons] at h
    split at h
    · rename_i hx
      cases h
      rw [eq_of_beq hx]; exact .head _
    · exact .tail _ (lookup_mem h)
theorem mem_lookup {α : Type} {x : Str} {c : α} : ∀ {l : List (Str × α)}, (x, c) ∈ l → ∃ d, l.lookup x = some d
  | [], h => by cases h
  | (n, k) :: r, h => by
    rw [List.lookup_cons]
    split
    · exact ⟨_, rfl⟩
    · rename_i hx
      rcases List.mem_cons.mp h with h | h
      · cases h; simp at hx
      · exact mem_lookup h
theorem lookup_relabel (scope : Scope) (env : Env) (x : Str) : (relabel scope env).names.lookup x = (scope.names.lookup x).map fun k => if (k == .free && env.scope.kind == .function && env.kindOf x == some .cell) = true then .cell else k := by
  unfold relabel
  simp only
  induction scope.names with
  | nil => rfl
  | cons p r ih =>
    obtain ⟨n, k⟩ := p
    rw [List.map_cons, List.lookup_cons]
    have e : (List.lookup x ((n, k) :: r)) = if (x == n) = true then some k else r.lookup x := by
      rw [List.lookup_cons]; split <;> simp_all
    rw [e]
    by_cases hx : (x == n) = true
    · have hxn := eq_of_beq hx
      subst hxn
      by_cases hk : (k == .free && env.scope.kind == .function && env.kindOf x == some .cell) = true
      · simp only [hk, if_true, List.lookup_cons, beq_self_eq_true, Option.map_some]
      · simp only [hk, if_false, List.lookup_cons, beq_self_eq_true, Option.map_some, Bool.false_eq_true, if_true]
    · have hx' : (x == n) = false := by simpa using hx
      by_cases hk : (k == .free && env.scope.kind == .function && env.kindOf n == some .cell) = true
      · simp only [hk, if_true, List.lookup_cons, hx', if_false, Bool.false_eq_true]; exact ih
      · simp only [hk, if_false, List.lookup_cons, hx', Bool.false_eq_true]; exact ih

def compFm (F : Fm) (scope : Scope) (cl : List (Str × Addr)) (c : Addr) (he : Heap) (σ : Store) : Fm := { A := F.A, fs := F.fs, env := compEnvC scope cl c F.env, own := [c], he := he, σe := σ }

section
variable {C : Cx} {F : Fm} {ρ : Loc} {σ : Store} {s : Shared} {n : Nat} {sc : Sc} {scope : Scope}

structure CompNames (F : Fm) (scope : Scope) (cl : List (Str × Addr)) : Prop where
  sub : ∀ x c, cl.lookup x = some c → F.env.cells.lookup x = some c ∧ scope.names.lookup x = some .free
  has : ∀ x, scope.names.lookup x = some .free → ∃ c, cl.lookup x = some c

theorem compNames (hF : FmOk C F n) (hs : ScOk sc F.env) (hk : compOk sc scope) : closureFor scope F.env = pure (closL F.env.cells scope.names []) ∧ CompNames F scope (closL F.env.cells scope.names []) := by
  obtain ⟨h1, h2, h3, h4⟩ := hk
  have hcell : ∀ p ∈ scope.names, p.2 = .free → ∃ c, F.env.cells.lookup p.1 = some c := fun p hp hf => by
    obtain ⟨_, _, h⟩ := h2 p hp
    obtain ⟨_, h⟩ := h hf
    rcases hs p.1 with q | ⟨_, q⟩
    · rcases h with h | h
      · rw [h] at q; exact hF.cellKind _ q.symm
      · rw [h] at q; exact hF.freeKind _ q.symm
    · exact hF.cellKind _ q
  refine ⟨closureFor_eq fun p hp hf => by obtain ⟨c, e⟩ := hcell p hp hf; rw [e]; rfl, ⟨fun x c e => ?_, fun x e => ?_⟩⟩
  · rcases closL_mem (lookup_mem e) with h | ⟨h5, h6⟩
    · cases h
    · obtain ⟨c', e'⟩ := hcell _ h5 rfl
      refine ⟨?_, ((h2 _ h5).2.2 rfl).1⟩
      rw [h6, e']; rfl
  · obtain ⟨c, hc⟩ := closL_has (cells := F.env.cells) (cs := []) (.inl (lookup_mem e))
    exact mem_lookup hc

theorem compFm_ok (hF : FmOk C F n) (hs : ScOk sc F.env) (hk : compOk sc scope) {cl : List (Str × Addr)} (hcl : CompNames F scope cl) {c : Addr} (hc : ∀ x, F.env.cells.lookup x ≠ some c) (he : Heap) :
    FmOk C (compFm F scope cl c he σ) n ∧ ScOk (fun y => scope.names.lookup y) (compFm F scope cl c he σ).env ∧ OwnCells (compFm F scope cl c he σ) (fun y => scope.names.lookup y) := by
  obtain ⟨h1, h2, h3, h4⟩ := hk
  have kind : ∀ x, (compFm F scope cl c he σ).env.kindOf x = (scope.names.lookup x).map fun k => if (k == .free && F.env.scope.kind == .function && F.env.kindOf x == some .cell) = true then .cell else k := fun x => lookup_relabel scope F.env x
  have noCell : ∀ x, scope.names.lookup x ≠ some .cell := fun x e => (h2 _ (lookup_mem e)).1 rfl
  have isFree : ∀ x, ((compFm F scope cl c he σ).env.kindOf x = some .cell ∨ (compFm F scope cl c he σ).env.kindOf x = some .free) → scope.names.lookup x = some .free := by
    intro x h
    rw [kind] at h
    cases q : scope.names.lookup x with
    | none => rw [q] at h; simp at h
    | some k =>
      rw [q] at h
      simp only [Option.map_some, Option.some.injEq] at h
      by_cases hk : (k == .free && F.env.scope.kind == .function && F.env.kindOf x == some .cell) = true
      · simp only [Bool.and_eq_true, beq_iff_eq] at hk; rw [hk.1.1]
      · rw [if_neg hk] at h
        rcases h with h | h
        · subst h; exact absurd q (noCell x)
        · rw [h]
  refine ⟨?_, ?_, ?_⟩
  · exact
    { handled := hF.handled
      frames := hF.frames
      room := hF.room
      kind := h1
      globals := hF.globals
      builtins := hF.builtins
      inter := by
        have : (compFm F scope cl c he σ).env.scope.kind = .function := h1
        simp [interactive, this]
      locOwn := .head _
      cellKind := fun x e => hcl.has x (isFree x (.inl e))
      freeKind := fun x e => hcl.has x (isFree x (.inr e))
      cellInj := fun x y a e1 e2 => hF.cellInj x y a (hcl.sub x a e1).1 (hcl.sub y a e2).1
      cellApart := fun x a e => ⟨fun q => hc x ((hcl.sub x a e).1.trans (by rw [q]; rfl)), (hF.cellApart x a (hcl.sub x a e).1).2⟩
      cellsKind := fun x a e => by
        rw [kind, (hcl.sub x a e).2]
        simp only [Option.map_some]
        split
        · exact .inl rfl
        · exact .inr rfl
      noDbg := by rw [kind]; show Option.map _ (scope.names.lookup (Str.ofString "__debug__")) = none; rw [h3]; rfl
      noCd := by rw [kind]; show Option.map _ (scope.names.lookup (Str.ofString "__classdict__")) = none; rw [h4]; rfl }
  · intro x
    rw [kind]
    show scope.names.lookup x = _ ∨ scope.names.lookup x = _ ∧ _
    cases q : scope.names.lookup x with
    | none => exact .inl rfl
    | some k =>
      simp only [Option.map_some]
      split
      · rename_i hk
        simp only [Bool.and_eq_true, beq_iff_eq] at hk
        exact .inr ⟨by rw [hk.1.1], rfl⟩
      · exact .inl rfl
  · intro x e; exact absurd e (noCell x)

theorem Inv.comp (I : Inv C F ρ σ s) (hF : FmOk C F n) (hk : compOk sc scope) {cl : List (Str × Addr)} (hcl : CompNames F scope cl) {fp : List Addr} {c : Addr} {h1 : Heap} {t : Tok} {m : Str → Option Value} {ob : Obj}
    (hfp : ∀ b ∈ fp, Away C F σ b) (hc : c = s.heap.objs.size) (he : Heap) (hhe : ∀ b o, he.get? b = some o → s.heap.get? b = some o) (hn : h1.Ns c m) (hkeep : ∀ b o, s.heap.get? b = some o → h1.get? b = some o) :
    Inv C (compFm F scope cl c he σ) (fun y => if scope.names.lookup y = some .free then ρ y else none) σ { s with heap := h1, toks := t } := by
  have J : Inv C F ρ σ { s with heap := h1, toks := t } := I.ext hkeep
  have aw : Away C F σ c := I.away (by rw [hc]; exact Nat.le_refl _)
  have hnone : s.heap.get? c = none := by rw [hc]; exact none_at _
  have hin : ∀ b, (he.get? b).isSome = true → (h1.get? b).isSome = true := fun b e => by
    cases q : he.get? b with
    | none => rw [q] at e; cases e
    | some o => rw [hkeep b o (hhe b o q)]; rfl
  exact
    { same := J.same
      keep0 := J.keep0
      frames := J.frames
      frNs := J.frNs
      loc := ⟨m, hn, fun x v e q => by
        split at e
        · rename_i hf
          have : (relabel scope F.env).names.lookup x = some .local := q
          rw [lookup_relabel, hf] at this
          simp only [Option.map_some, Option.some.injEq] at this
          split at this <;> cases this
        · cases e⟩
      cel := fun x a e => by
        obtain ⟨u, h2, h3⟩ := J.cel x a (hcl.sub x a e).1
        refine ⟨u, h2, fun v q _ => ?_⟩
        split at q
        · exact h3 v q (hF.cellsKind x a (hcl.sub x a e).1)
        · cases q
      sto := fun a ca e => by
        obtain ⟨g1, g2, g3, g4, g5, g6⟩ := J.sto a ca e
        refine ⟨g1, g2, fun q => ?_, g4, fun x q => g5 x (hcl.sub x a q).1, g6⟩
        have : a = c := List.mem_singleton.mp q
        rw [this, aw.st] at e; cases e
      ownNew := fun b hb => by
        have : b = c := List.mem_singleton.mp hb
        subst this
        refine ⟨aw.s0, ?_⟩
        show he.get? b = none
        cases q : he.get? b with
        | none => rfl
        | some o => have := hhe b o q; rw [hnone] at this; cases this
      ownObj := fun b hb => by
        have : b = c := List.mem_singleton.mp hb
        subst this
        exact Ns.notTup hn
      kept := fun b o e _ _ => hkeep b o (hhe b o e)
      ns := fun b hb _ m hm => hm.at' fun o e => hkeep b o (hhe b o e)
      new := fun b e e' => by
        have e1 : σ b = none := e
        rw [e1] at e'; cases e'
      dom := hin
      lo := .head _
      st2 := J.st2 }
end
end Mine

set_option linter.unusedVariables false
set_option autoImplicit false
namespace Mine
open PySem PySem.Calls PyProof.Rows PySem.SeqAt PySem.W

section
variable {prog : Program} {w : World} {A : Around} {R : Result → Shared → Prop} {s : Shared}
def noE : Value → Shared → Prop := fun _ _ => False
theorem noE_any {α : Type} {M : Model} {E : Value → Shared → Prop} {t : Sem α} {Q : α → Shared → Prop} (h : wpAny M A t Q noE s) : wpAny M A t Q E s := wpAny_mono h (fun _ _ x => x) fun _ _ x => x.elim

theorem compLoop_rule {elt target iter : Expr} {ifs : List Expr} {scope : Scope} {pos : Pos} {it acc : Value} {env : Env} (I : Nat → Shared → Prop)
    (turn : ∀ n s, I n s → wpAny (model prog w) A (pyNext it) (fun r s₁ => match r with
      | none => R (.ok .next) s₁
      | some v => wpAny (model prog w) A (letOwnedTupleGo target it v) (fun _ s₀ => wpAny (model prog w) A (assign target env v) (fun _ s₂ =>
          wpAny (model prog w) A (forIn ifs true fun c r => if r = true then do let ok ← isTrue c env (eval c env); pure (ForInStep.yield ok) else pure (ForInStep.yield r)) (fun ok s₃ =>
            if ok = true then wpAny (model prog w) A (eval elt env) (fun x s₄ =>
              wpAny (model prog w) A (call (.builtin "list.append") [acc, x]) (fun _ s₅ => ∃ m, m < n ∧ I m s₅) noE s₄) noE s₃
            else ∃ m, m < n ∧ I m s₃) noE s₂) noE s₀) noE s₁) noE s)
    (n : Nat) (h : I n s) : codeAny (model prog w) A (.compLoop (.ListComp elt [⟨target, iter, ifs, 0⟩] scope pos) 0 it acc env) R s := by
  refine codeAny_loop rfl I (fun n s hI => ?_) n h
  show wpAny _ A ((compTurn (.ListComp elt [⟨target, iter, ifs, 0⟩] scope pos) 0 it acc env).onRaise (fun x => do noteFrame x env; theTreesLotGoes x)) _ _ s
  refine wpAny_noted (noE_any ?_)
  rw [compTurn_list]
  refine wpAny_bind (wpAny_standAt (wpAny_bind (wpAny_mono (turn n s hI) (fun r s₁ h₁ => ?_) fun _ _ h' => h')))
  cases r with
  | none => exact wpAny_pure h₁
  | some v =>
    refine wpAny_bind (wpAny_mono h₁ (fun _ s₀ h₁ => ?_) fun _ _ h' => h')
    refine wpAny_bind (wpAny_mono h₁ (fun _ s₂ h₂ => wpAny_bind (wpAny_mono h₂ (fun ok s₃ h₃ => ?_) fun _ _ h' => h')) fun _ _ h' => h')
    cases ok with
    | false => exact wpAny_pure ⟨rfl, h₃⟩
    | true =>
      exact wpAny_bind (wpAny_bind (wpAny_mono h₃ (fun x s₄ h₄ => wpAny_bind (wpAny_mono h₄ (fun _ s₅ h₅ => wpAny_pure (wpAny_pure ⟨rfl, h₅⟩)) fun _ _ h' => h')) fun _ _ h' => h'))
end

section
variable {C : Cx} {D : Dm}
def SndIfs (C : Cx) (D : Dm) (ifs : List Expr) : Prop := ∀ (F : Fm) (sc : Sc) (ρ : Loc) (σ : Store) (K : Bool → Store → Prop) (s : Shared),
  FmOk C F D.lvl → ScOk sc F.env → wpIf D ifs sc ρ σ K → Inv C F ρ σ s →
  wpAny C.M F.A (forIn ifs true fun c r => if r = true then do let ok ← isTrue c F.env (eval c F.env); pure (ForInStep.yield ok) else pure (ForInStep.yield r)) (OkB C F ρ σ s K) noE s
theorem tests_false {A : Around} {M : Model} {env : Env} {Q : Bool → Shared → Prop} {E : Value → Shared → Prop} : ∀ {ifs : List Expr} {s : Shared}, Q false s →
    wpAny M A (forIn ifs false fun c r => if r = true then do let ok ← isTrue c env (eval c env); pure (ForInStep.yield ok) else pure (ForInStep.yield r)) Q E s
  | [], s, h => wpAny_pure h
  | e :: r, s, h => by
    rw [List.forIn_cons]
    simp only [Bool.false_eq_true, if_false, pure_bind]
    exact tests_false h
theorem sndIfs_nil : SndIfs C D [] := fun F sc ρ σ K s hF hs h I => by
  rw [wpIf_nil] at h
  exact wpAny_pure ⟨σ, I, Stp.refl _ _ _, h⟩
theorem sndIfs_cons {e : Expr} {r : List Expr} (he : SndT C D e) (hr : SndIfs C D r) : SndIfs C D (e :: r) := fun F sc ρ σ K s hF hs h I => by
  rw [wpIf_cons] at h
  rw [List.forIn_cons]
  simp only [if_true, bind_assoc, pure_bind]
  refine wpAny_bind (wpAny_mono (he F sc ρ σ _ (fun b σ₁ => if b = true then wpIf D r sc ρ σ₁ K else K false σ₁) (fun _ => False) s noE hF hs h (fun v σ₁ q => q) I fun _ _ _ _ x => x.elim) (fun b s₁ o => ?_) fun _ _ x => x)
  obtain ⟨σ₁, I₁, S₁, q⟩ := o
  cases b with
  | true => exact wpAny_mono (hr F sc ρ σ₁ K s₁ hF hs q I₁) (fun _ _ o => o.trans S₁) fun _ _ x => x
  | false => exact tests_false ⟨σ₁, I₁, S₁, q⟩

/-- the abstract turn of a comprehension -/
def compOne (D : Dm) (tgt elt : Expr) (ifs : List Expr) (scope : Scope) (x : V) (ρ' : Loc) (σ' : Store) (k : Loc → Option V → Store → Prop) : Prop :=
  ∃ ρ'', bindS (fun y => scope.names.lookup y) tgt x ρ' = some ρ'' ∧
    wpIf D ifs (fun y => scope.names.lookup y) ρ'' σ' (fun c σ₂ => if c then wpE D elt (fun y => scope.names.lookup y) ρ'' σ₂ (fun u σ₃ => k ρ'' (some u) σ₃) (fun _ => False) else k ρ'' none σ₂)

def AfterComp (C : Cx) (F : Fm) (ρ : Loc) (σ : Store) (s : Shared) (K : List V → Store → Prop) (acc : Value) (c : Addr) (s' : Shared) : Prop :=
  ∃ d vs σ' m, acc = .ref d ∧ σ' d = none ∧ K vs σ' ∧ Inv C F ρ (σ'.set d (.list vs)) s' ∧ Stp F σ (σ'.set d (.list vs)) s.heap s'.heap ∧ s'.heap.Ns c m ∧ Away C F (σ'.set d (.list vs)) c ∧ s.heap.get? c = none

theorem comp_block (hC : CxOk C) (hD : DmOk C D) {elt tgt it : Expr} {ifs : List Expr} {scope : Scope} {p : Pos} (hel : SndE C D elt) (hi : SndIfs C D ifs) {F : Fm} {sc : Sc} {ρ : Loc} {σ : Store} {s s₂ : Shared} {v : Value} {K : List V → Store → Prop} {E : Value → Shared → Prop}
    (hF : FmOk C F D.lvl) (hs : ScOk sc F.env) (hk : compOk sc scope)
    (h2 : IterOk C F ρ σ s tgt (fun σ₁ ok items => items.length ≤ 2 ^ 20 ∧ compL (compOne D tgt elt ifs scope) ok items (fun y => if scope.names.lookup y = some .free then ρ y else none) σ₁ K) v s₂)
    {RR : Value → Addr → Result → Shared → Prop} (hRR : ∀ acc c s', AfterComp C F ρ σ s K acc c s' → RR acc c (.ok .next) s') :
    wpAny C.M F.A (newList []) (fun acc s₃ => wpAny C.M F.A (newFunctionEnv scope F.env.globals (closL F.env.cells scope.names []) [] F.env.qual none .none (some F.env)) (fun cenv s₄ =>
      codeAny C.M F.A (.compStart (.ListComp elt [⟨tgt, it, ifs, 0⟩] scope p) 0 v acc { cenv with scope := relabel scope F.env }) (RR acc cenv.locals) s₄) E s₃) E s₂ := by
  obtain ⟨σ1, J, fp, src, ok, items, St, rfl, I2, S2, hT, hst, haw, ⟨hlen, hL⟩, hsrc⟩ := h2
  have T := hT F.A hF.handled
  obtain ⟨_, hcl⟩ := compNames hF hs hk
  generalize closL F.env.cells scope.names [] = cl at hcl ⊢
  refine wpAny_newObj_type (wpAny_newFunctionEnv (fun p hp => (hk.2.1 p hp).1) (by intro y hy; simp at hy) (fun h₁ hns₁ hsb₁ => ?_) hk.1)
  dsimp only at hns₁ hsb₁ ⊢
  generalize hH2 : s₂.heap.push { cls := .type "list", dict := none, data := .seq ([] : List Value).toArray } = H2 at hns₁ hsb₁ ⊢
  have hCc : H2.objs.size = s₂.heap.objs.size + 1 := by rw [← hH2, Heap.size_push]
  have old : ∀ b o, H2.get? b = some o → h₁.get? b = some o := fun b o e => hsb₁.extBut b o (Nat.ne_of_lt (Heap.lt_size e)) (Heap.get?_push_of_some _ e)
  have old2 : ∀ b o, s₂.heap.get? b = some o → H2.get? b = some o := fun b o e => hH2 ▸ Heap.get?_push_of_some _ e
  have hacc0 : H2.get? s₂.heap.objs.size = some { cls := .type "list", dict := none, data := .seq ([] : List Value).toArray } := hH2 ▸ Heap.get?_push_size _ rfl
  have awD : Away C F σ1 s₂.heap.objs.size := I2.away (Nat.le_refl _)
  have hDm : s₂.heap.objs.size ≠ sysModules := by
    have h2 : cStatics < s₂.heap.objs.size := by
      have := I2.st2
      cases q : s₂.heap.get? cStatics with
      | none => rw [q] at this; cases this
      | some o => exact Heap.lt_size q
    intro q
    have : (2 : Nat) < s₂.heap.objs.size := h2
    rw [q] at this
    exact absurd this (by decide)
  generalize hD0 : s₂.heap.objs.size = d at hacc0 awD hCc hDm ⊢
  generalize hc0 : H2.objs.size = c at hns₁ hsb₁ hCc ⊢
  have I3 : Inv C F ρ σ1 { s₂ with heap := H2 } := I2.ext old2
  have awC : Away C F σ1 c := I3.away (by show H2.objs.size ≤ c; rw [hc0]; exact Nat.le_refl _)
  have hdc : d ≠ c := by omega
  generalize hhe : holes s₂.heap fp = he
  have heIn : ∀ b o, he.get? b = some o → s₂.heap.get? b = some o := fun b o e => by
    rw [← hhe] at e
    by_cases q : b ∈ fp
    · rw [holes_in q] at e; cases e
    · rw [holes_ne q] at e; exact e
  obtain ⟨F2, sc2, ow2⟩ := compFm_ok (σ := σ1) hF hs hk hcl (c := c) awC.cells he
  generalize hFm : compFm F scope cl c he σ1 = F' at F2 sc2 ow2
  have eA : F'.A = F.A := by rw [← hFm]; rfl
  have eenv : F'.env = compEnvC scope cl c F.env := by rw [← hFm]; rfl
  have I4 : Inv C F' (fun y => if scope.names.lookup y = some .free then ρ y else none) σ1 { s₂ with heap := h₁, toks := s₂.toks + ([] : List (Str × Value)).length } := by
    rw [← hFm]
    exact Inv.comp (ob := default) (s := { s₂ with heap := H2 }) I3 hF hk hcl (fun b hb => (haw b hb).1) hc0.symm he (fun b o e => old2 b o (heIn b o e)) hns₁ old
  have awFrom : ∀ b, Away C F σ1 b → b ≠ c → he.get? b = none → Away C F' σ1 b := fun b h hb hn => by
    rw [← hFm]
    exact { s0 := h.s0, st := h.st, own := fun q => hb (List.mem_singleton.mp q), fr := h.fr, cells := fun x q => h.cells x (hcl.sub x b q).1, he := hn, ne2 := h.ne2 }
  have hst₁ : St 0 h₁ := T.frame _ _ _ hst fun b _ o e => old b o (old2 b o e)
  have hfpLt : ∀ b ∈ fp, @LT.lt Nat _ b d := fun b hb => by obtain ⟨o, _, e, _⟩ := T.live _ _ hst b hb; rw [← hD0]; exact Heap.lt_size e
  have aw4 : ∀ b ∈ fp, Away C F' σ1 b := fun b hb => awFrom b (haw b hb).1 (Nat.ne_of_lt (by have := hfpLt b hb; omega)) (by rw [← hhe]; exact holes_in hb)
  have heD : he.get? d = none := by
    cases q : he.get? d with
    | none => rfl
    | some o => have : @LT.lt Nat _ d s₂.heap.objs.size := Heap.lt_size (heIn d o q); omega
  have awD4 : Away C F' σ1 d := awFrom d awD hdc heD
  have loop : ∀ s₃ : Shared, s₃ = { s₂ with heap := h₁, toks := s₂.toks + ([] : List (Str × Value)).length } →
      codeAny C.M F.A (.compLoop (.ListComp elt [⟨tgt, it, ifs, 0⟩] scope p) 0 (.ref J) (.ref d) F'.env) (RR (.ref d) c) s₃ := by
    rintro s₃ rfl
    refine compLoop_rule (fun k s' => ∃ i ρ' σ' ys xs m, k = items.length + 1 - i ∧ i ≤ items.length ∧ Inv C F' ρ' σ' s' ∧ TK s₂.heap s'.heap ∧ St i s'.heap ∧ (∀ b ∈ fp, Away C F' σ' b) ∧ Away C F' σ' d ∧
        s'.heap.get? d = some { cls := .type "list", dict := none, data := .seq xs m, slots := #[] } ∧ RelL C.G s'.heap ys xs.toList ∧ ys.length ≤ i ∧
        compL (compOne D tgt elt ifs scope) ok (items.drop i) ρ' σ' (fun vs σ'' => K (ys ++ vs) σ'')) ?_ (items.length + 1)
      ⟨0, _, σ1, [], #[], _, rfl, Nat.zero_le _, I4, TK.of_keep fun b o e => old b o (old2 b o e), hst₁, aw4, awD4, old _ _ hacc0, RelL.nil, Nat.le_refl _, hL⟩
    rintro k s' ⟨i, ρ', σ', ys, xs, m, rfl, hi', I', tk', hst', haw', hawD, hd, hys, hyl, hL'⟩
    have hnt : ∀ b ∈ fp, ∀ o, s'.heap.get? b = some o → ¬ TupO o := fun b hb o e q => by
      obtain ⟨o', vs, ho', hd⟩ := T.live i _ hst' b hb
      rw [e] at ho'; cases ho'
      obtain ⟨_, xs, m, q⟩ := q
      rw [hd] at q; cases q
    have hdfp : d ∉ fp := fun q => by have := hfpLt d q; omega
    cases hx : items[i]? with
    | none =>
      have hlen' : i = items.length := Nat.le_antisymm hi' (by simpa using hx)
      subst hlen'
      rw [List.drop_length] at hL'
      simp only [compL, List.append_nil] at hL'
      refine wpAny_mono (T.done s' (fun s'' => RR (.ref d) c (.ok .next) s'') noE hst' (hsrc F' ρ' σ' s' I' tk' hL'.1) fun h' tk hk => hRR _ _ _ ?_) (fun r s'' q => ?_) fun _ _ x => x
      · obtain ⟨I'', tk''⟩ := I'.asides (t := tk) haw' hnt hk
        have hfr : F'.fs = F.fs := by rw [← hFm]; rfl
        have hb := I2.back hF I'' (fp := fp) (fun b hb => ⟨(haw b hb).1, (haw' b hb).st, fun o e q => by
            obtain ⟨o', vs, ho', hd⟩ := T.live _ _ hst b hb
            rw [e] at ho'; cases ho'
            obtain ⟨_, xs, m, q⟩ := q
            rw [hd] at q; cases q⟩) (fun b hb => by rw [← hFm]; show he.get? b = _; rw [← hhe]; exact holes_ne hb) (by rw [← hFm]; rfl) (fun b hb => .inl (by rw [← hfr]; exact hb)) (fun b hb => by rw [hfr]; exact hb) (by rw [← hfr]; exact I''.frames)
        obtain ⟨I5, hS5⟩ := hb
        have S5 := hS5 σ s.heap S2 fun b hb => (haw b hb).2
        have hd' : h'.get? d = some { cls := .type "list", dict := none, data := .seq xs m, slots := #[] } := hk d _ hdfp hd
        have awD5 : Away C F σ' d := { awD with st := hawD.st }
        have hsd : s.heap.get? d = none := by
          cases q : s.heap.get? d with
          | none => rfl
          | some o =>
            have := S2.dom d (by rw [q]; rfl)
            cases r : s₂.heap.get? d with
            | none => rw [r] at this; cases this
            | some o' => have : @LT.lt Nat _ d s₂.heap.objs.size := Heap.lt_size r; omega
        have hsc : s.heap.get? c = none := by
          cases q : s.heap.get? c with
          | none => rfl
          | some o =>
            have := S2.dom c (by rw [q]; rfl)
            cases r : s₂.heap.get? c with
            | none => rw [r] at this; cases this
            | some o' => have : @LT.lt Nat _ c s₂.heap.objs.size := Heap.lt_size r; omega
        obtain ⟨mc, hmc, _⟩ := I''.loc
        have hcl' : F'.env.locals = c := by rw [eenv]; rfl
        rw [hcl'] at hmc
        refine ⟨d, ys, σ', mc, rfl, hawD.st, hL'.2, I5.adopt awD5 hDm ⟨xs, m, hd', hys.mono tk''⟩, S5.adopt hsd, hmc, ?_, hsc⟩
        refine { awC with st := ?_ }
        rw [Store.set_ne (Ne.symm hdc)]
        have : c ∈ F'.own := by rw [← hFm]; exact .head _
        cases q : σ' c with
        | none => rfl
        | some cc => exact absurd this (I''.sto c cc q).2.2.1
      · obtain ⟨rfl, q⟩ := q; exact q
    | some x =>
      have hlt : i < items.length := (List.getElem?_eq_some_iff.mp hx).1
      have hdrop : items.drop i = x :: items.drop (i + 1) := by
        rw [List.drop_eq_getElem_cons hlt]
        congr 1
        have := List.getElem?_eq_getElem hlt
        rw [this] at hx; cases hx; rfl
      rw [hdrop] at hL'
      simp only [compL] at hL'
      obtain ⟨hok, ρ'', hbind, hbody⟩ := hL'
      refine wpAny_mono (T.turn i x s' (fun v s'' => wpAny C.M F.A (assign tgt F'.env v) (fun _ s₂' =>
          wpAny C.M F.A (forIn ifs true fun c r => if r = true then do let ok ← isTrue c F'.env (eval c F'.env); pure (ForInStep.yield ok) else pure (ForInStep.yield r)) (fun okb s₃ =>
            if okb = true then wpAny C.M F.A (eval elt F'.env) (fun x s₄ =>
              wpAny C.M F.A (call (.builtin "list.append") [.ref d, x]) (fun _ s₅ => ∃ m, m < items.length + 1 - i ∧ ∃ i ρ' σ' ys xs m', m = items.length + 1 - i ∧ i ≤ items.length ∧ Inv C F' ρ' σ' s₅ ∧ TK s₂.heap s₅.heap ∧ St i s₅.heap ∧ (∀ b ∈ fp, Away C F' σ' b) ∧ Away C F' σ' d ∧
        s₅.heap.get? d = some { cls := .type "list", dict := none, data := .seq xs m', slots := #[] } ∧ RelL C.G s₅.heap ys xs.toList ∧ ys.length ≤ i ∧
        compL (compOne D tgt elt ifs scope) ok (items.drop i) ρ' σ' (fun vs σ'' => K (ys ++ vs) σ'')) noE s₄) noE s₃
            else ∃ m, m < items.length + 1 - i ∧ ∃ i ρ' σ' ys xs m', m = items.length + 1 - i ∧ i ≤ items.length ∧ Inv C F' ρ' σ' s₃ ∧ TK s₂.heap s₃.heap ∧ St i s₃.heap ∧ (∀ b ∈ fp, Away C F' σ' b) ∧ Away C F' σ' d ∧
        s₃.heap.get? d = some { cls := .type "list", dict := none, data := .seq xs m', slots := #[] } ∧ RelL C.G s₃.heap ys xs.toList ∧ ys.length ≤ i ∧
        compL (compOne D tgt elt ifs scope) ok (items.drop i) ρ' σ' (fun vs σ'' => K (ys ++ vs) σ'')) noE s₂') noE s'') noE hx (bindable_of hbind) hst' (hsrc F' ρ' σ' s' I' tk' hok) fun v h' tk hr hst'' hk => ?_) (fun r s'' q => ?_) fun _ _ x => x
      · obtain ⟨I'', tk''⟩ := I'.asides (t := tk) haw' hnt hk
        rw [← eA]
        refine wpAny_mono (assign_ok F2 sc2 ow2 hbind I'' hr) (fun _ s3 o3 => ?_) fun _ _ x => x
        obtain ⟨I3', S3⟩ := o3
        refine wpAny_mono (hi F' _ ρ'' σ' _ s3 F2 sc2 hbody I3') (fun b s4 o4 => ?_) fun _ _ x => x
        obtain ⟨σ4, I4', S4, q4⟩ := o4
        have lv : ∀ b ∈ fp, ∃ o, h'.get? b = some o := fun b hb => let ⟨o, _, e, _⟩ := T.live _ _ hst'' b hb; ⟨o, e⟩
        have hd1 : h'.get? d = some { cls := .type "list", dict := none, data := .seq xs m, slots := #[] } := hk d _ hdfp hd
        have S34 : Stp F' σ' σ4 h' s4.heap := Stp.trans (h' := s3.heap) S3 S4
        have aw4' : ∀ b ∈ fp, Away C F' σ4 b := fun b hb => (haw' b hb).step S34 (by obtain ⟨o, e⟩ := lv b hb; rw [e]; rfl)
        have awd4 : Away C F' σ4 d := hawD.step S34 (by rw [hd1]; rfl)
        have st4 : St (i + 1) s4.heap := T.frame _ _ _ hst'' fun b hb o e => (haw' b hb).keep S34 e
        have hd4 := hawD.keep S34 hd1
        have tk4 : TK s₂.heap s4.heap := (tk'.trans tk'').trans S34.tk
        cases b with
        | false =>
          simp only [Bool.false_eq_true, if_false] at q4 ⊢
          exact ⟨_, by omega, i + 1, ρ'', σ4, ys, xs, m, rfl, hlt, I4', tk4, st4, aw4', awd4, hd4, hys.mono (tk''.trans S34.tk), by omega, q4⟩
        | true =>
          simp only [if_true] at q4 ⊢
          refine bindE hel F2 sc2 q4 I4' (fun _ _ _ _ x => x.elim) fun u s5 y σ5 I5 S5 r5 q5 => ?_
          have hd5 := awd4.keep S5 hd4
          have hPl : s5.heap.PlainList d xs := ⟨m, hd5⟩
          have hxl : xs.size = ys.length := by have := hys.length; simpa using this
          refine wpAny_list_append_plain hPl (fun h6 hp6 hs6 => ?_) (by unfold sizeLine; omega)
          obtain ⟨m6, hd6⟩ := hp6
          have awd5 : Away C F' σ5 d := awd4.step S5 (by rw [hd4]; rfl)
          have aw5 : ∀ b ∈ fp, Away C F' σ5 b := fun b hb => (aw4' b hb).step S5 (by obtain ⟨o, _, e, _⟩ := T.live _ _ st4 b hb; rw [e]; rfl)
          have st5 : St (i + 1) s5.heap := T.frame _ _ _ st4 fun b hb o e => (aw4' b hb).keep S5 e
          obtain ⟨I6, tk6⟩ := I5.asides (fp := [d]) (h' := h6) (t := s5.toks) (fun b hb => by rw [List.mem_singleton.mp hb]; exact awd5) (fun b hb o e q => by
            rw [List.mem_singleton.mp hb, hd5] at e; cases e
            exact absurd q.1 (by show ¬ (Value.type "list" = Value.type "tuple"); decide)) (fun a o ha e => (hs6.2 a fun q => ha (by simp [q])).trans e)
          have st6 : St (i + 1) h6 := T.frame _ _ _ st5 fun b hb o e => (hs6.2 b fun q => hdfp (q ▸ hb)).trans e
          refine ⟨_, by omega, i + 1, ρ'', σ5, ys ++ [y], xs.push u, m6, rfl, hlt, I6, (tk4.trans S5.tk).trans tk6, st6, aw5, awd5, hd6, ?_, by simp; omega, ?_⟩
          · rw [Array.toList_push]
            exact (hys.mono (((tk''.trans S34.tk).trans S5.tk).trans tk6)).append (RelL.cons (r5.mono tk6) RelL.nil)
          · simp only [List.append_assoc, List.singleton_append]
            exact q5
      · obtain ⟨v, rfl, q⟩ := q
        exact q
  have eE : compEnvC scope cl c F.env = F'.env := eenv.symm
  show codeAny C.M F.A (.compStart _ 0 (.ref J) (.ref d) (compEnvC scope cl c F.env)) (RR (.ref d) c) _
  rw [eE]
  exact codeAny_compStart_list (loop _ rfl) (T.self 0 _ _ _ hst₁ (loop _ rfl))
end
end Mine

set_option linter.unusedVariables false
set_option autoImplicit false
namespace Mine
open PySem PySem.Calls PyProof.Rows PySem.SeqAt PySem.W

section
variable {C : Cx} {D : Dm}

theorem headOf_call {n : Str} {p q : Pos} {e : Expr} : headOf (.Call (.Name n p) [e] [] q) = if isHead n then ((headOf (.Call (.Name n p) [e] [] q)).1, e) else (.plain, .Call (.Name n p) [e] [] q) := by
  unfold headOf isHead
  by_cases h1 : n = "range"
  · simp [h1]
  · by_cases h2 : n = "enumerate"
    · subst h2; simp only [if_neg h1, if_true, beq_self_eq_true, Bool.or_true, Bool.true_or]
    · by_cases h3 : n = "reversed"
      · subst h3; simp only [if_neg h1, if_neg h2, if_true, beq_self_eq_true, Bool.or_true]
      · simp [h1, h2, h3]

theorem comp_split {elt tgt it : Expr} {ifs : List Expr} {scope : Scope} {p : Pos} {sc : Sc} {ρ : Loc} {σ : Store} {Q : QV} {X : XP} (h : wpE D (.ListComp elt [⟨tgt, it, ifs, 0⟩] scope p) sc ρ σ Q X) :
    headOk D.ge sc (headOf it).1 ∧ tgtOk (headOf it).1 tgt ∧ compOk sc scope ∧ notSet it = true ∧
    wpE D (headOf it).2 sc ρ σ (fun v σ₁ => headS D (headOf it).1 v σ₁ fun ok items => items.length ≤ 2 ^ 20 ∧ compL (compOne D tgt elt ifs scope) ok items (fun y => if scope.names.lookup y = some .free then ρ y else none) σ₁ (fun vs σ₂ => ∀ a, σ₂ a = none → Q (.ref a) (σ₂.set a (.list vs)))) X := by
  rw [wpE_CompG] at h
  obtain ⟨h1, h2, h3, h4, h5⟩ := h
  refine ⟨h1, h2, h3, h4, ?_⟩
  unfold compK at h5
  split at h5
  · rename_i n pn e q
    rw [headOf_call]
    rw [headOf_call] at h5
    split at h5
    · rename_i hh; simp only [hh, if_true] at h5 ⊢; exact h5
    · rename_i hh; simp only [hh, if_false, Bool.false_eq_true] at h5 ⊢; exact h5
  · have : headOf it = (.plain, it) := by
      rename_i hx
      unfold headOf
      split
      · exact absurd rfl (hx _ _ _ _)
      · rfl
    rw [this] at h5 ⊢
    exact h5

theorem away_ns {c : Addr} {h : Heap} {m : Str → Option Value} (hn : h.Ns c m) : ∀ o, h.get? c = some o → ¬ TupO o := fun o e q => by
  obtain ⟨o', ho', hd⟩ := Ns.notTup hn
  rw [e] at ho'; cases ho'
  obtain ⟨_, xs, k, q⟩ := q
  exact hd xs k q

/-- the comprehension, its value used or handed on -/
theorem comp_ok (hC : CxOk C) (hD : DmOk C D) {elt tgt it : Expr} {ifs : List Expr} {scope : Scope} {p pos : Pos} (hh : SndE C D (headOf it).2) (hel : SndE C D elt) (hi : SndIfs C D ifs) {F : Fm} {sc : Sc} {ρ : Loc} {σ : Store} {Q : QV} {X : XP} {s : Shared} {E : Value → Shared → Prop}
    (hF : FmOk C F D.lvl) (hs : ScOk sc F.env) (h : wpE D (.ListComp elt [⟨tgt, it, ifs, 0⟩] scope p) sc ρ σ Q X) (I : Inv C F ρ σ s) (hE : EOk C F ρ X E) {use : Option (Value → Sem Unit)} {R : Value → Shared → Prop}
    (k : ∀ acc c s', (∃ x σ', Inv C F ρ σ' s' ∧ Stp F σ σ' s.heap s'.heap ∧ Rel C.G s'.heap x acc ∧ Q x σ' ∧ (∃ m, s'.heap.Ns c m) ∧ Away C F σ' c ∧ s.heap.get? c = none) → compPost C.M F.A E use R acc c (.ok .next) s') :
    wpAny C.M F.A (comprehension (.ListComp elt [⟨tgt, it, ifs, 0⟩] scope p) scope F.env pos (newList []) false (eval it F.env) use) R E s := by
  obtain ⟨h1, h2, h3, h4, h5⟩ := comp_split h
  obtain ⟨hclos, hcl⟩ := compNames hF hs h3
  refine wpAny_comprehension_free (use := use) rfl (by intro x; cases it <;> first | rfl | exact absurd h4 (by simp [notSet])) hclos h3.1 (fun x hx => (h3.2.1 x hx).2.1) (wpAny_mono (head_ok (target := tgt) (K := fun σ₁ ok items => items.length ≤ 2 ^ 20 ∧ compL (compOne D tgt elt ifs scope) ok items (fun y => if scope.names.lookup y = some .free then ρ y else none) σ₁ (fun vs σ₂ => ∀ a, σ₂ a = none → Q (.ref a) (σ₂.set a (.list vs)))) hC hD hh hF hs h1 h5 I hE)
    (fun x s₁ q₁ => wpAny_mono q₁ (fun v s₂ q₂ => ?_) fun _ _ e => e) fun _ _ e => e)
  refine comp_block (RR := fun acc c => compPost C.M F.A E use R acc c) hC hD hel hi hF hs h3 q₂ fun acc c s' ha => ?_
  obtain ⟨d, vs, σ', m, rfl, hd, hK, I', S', hn, haw, hsc⟩ := ha
  exact k _ _ _ ⟨.ref d, _, I', S', by simp [Rel], hK d hd, ⟨m, hn⟩, haw, hsc⟩

theorem sndComp (hC : CxOk C) (hD : DmOk C D) {elt tgt it : Expr} {ifs : List Expr} {scope : Scope} {p : Pos} (hh : SndE C D (headOf it).2) (hel : SndE C D elt) (hi : SndIfs C D ifs) : SndE C D (.ListComp elt [⟨tgt, it, ifs, 0⟩] scope p) := fun F sc ρ σ Q X s E hF hs h I hE => by
  rw [eval_ListComp]
  refine comp_ok hC hD hh hel hi hF hs h I hE (use := none) fun acc c s' hk => ?_
  obtain ⟨x, σ', I', S', r', q', ⟨m, hn⟩, haw, hsc⟩ := hk
  refine ⟨m, hn, fun h' hs' => ?_⟩
  have kk : ∀ a o, a ∉ [c] → s'.heap.get? a = some o → h'.get? a = some o := fun a o ha e => (hs'.2 a fun q => ha (by simp [q])).trans e
  obtain ⟨I'', tk⟩ := I'.asides (fp := [c]) (h' := h') (t := s'.toks) (fun b hb => by rw [List.mem_singleton.mp hb]; exact haw) (fun b hb => by rw [List.mem_singleton.mp hb]; exact away_ns hn) kk
  exact ⟨x, σ', I'', S'.asides (fun b hb => by rw [List.mem_singleton.mp hb]; exact hsc) tk kk, r'.mono tk, q'⟩

/-! assignments -/
def notComp : Expr → Bool
  | .ListComp .. | .SetComp .. | .DictComp .. => false
  | _ => true

theorem sndAssign (hC : CxOk C) (hD : DmOk C D) {x : Str} {p p2 : Pos} {e : Expr} (he : SndE C D e)
    (hc : notComp e = true ∨ ∃ elt tgt it ifs scope pc, e = .ListComp elt [⟨tgt, it, ifs, 0⟩] scope pc ∧ SndE C D (headOf it).2 ∧ SndE C D elt ∧ SndIfs C D ifs) : SndS C D (.Assign [.Name x p] e p2) := fun F sc ρ σ Q X s E hF hs ho hft h I hE hP => by
  rw [wpS_AssignN] at h

  have plain : swapsWith e (some (.Name x p)) p2.line F.env = pure false → wpAny C.M F.A (exec (.Assign [.Name x p] e p2) F.env) (OkS C F σ s Q) E s := by
    intro hsw
    refine wpAny_Assign_Name (bindE he hF hs h I (hE ρ).1 fun u s1 v σ1 I1 S1 r1 q1 => ?_) hsw
    obtain ⟨ρ', hb, q⟩ := q1
    unfold bindS at hb
    simp only at hb
    split at hb
    · rename_i hx
      cases hb
      exact wpAny_mono (storeName_ok hF hs ho hx I1 r1) (fun _ s2 o => ⟨.next, _, σ1, o.1, S1.trans o.2, rfl, q⟩) fun _ _ x => x
    · cases hb
  rcases hc with hc | ⟨elt, tgt, it, ifs, scope, pc, rfl, hh, hel, hi⟩
  · exact plain (by cases e <;> first | rfl | exact absurd hc (by simp [notComp]))
  · have hsw : ∃ b, swapsWith (.ListComp elt [⟨tgt, it, ifs, 0⟩] scope pc) (some (.Name x p)) p2.line F.env = pure b := ⟨_, rfl⟩
    obtain ⟨b, hb⟩ := hsw
    cases b with
    | false => exact plain hb
    | true =>
      rw [exec_Assign_Name_used _ _ _ _ hb]
      refine wpAny_bind (wpAny_standAt (wpAny_bind ?_))
      show wpAny _ F.A (do let _ ← comprehension (.ListComp elt [⟨tgt, it, ifs, 0⟩] scope pc) scope F.env _ (newList []) false (eval it F.env) (some (assign (.Name x p) F.env))) _ _ s
      refine wpAny_bind (wpAny_mono (comp_ok hC hD hh hel hi hF hs h I (hE ρ).1 (use := some (assign (.Name x p) F.env)) (R := fun _ s' => OkS C F σ s Q .next s') fun acc c s' hk => ?_) (fun _ s' hq => wpAny_pure (wpAny_pure hq)) fun _ _ e => e)
      obtain ⟨v, σ', I', S', r', ⟨ρ', hbd, q'⟩, ⟨m, hn⟩, haw, hsc⟩ := hk
      refine wpAny_mono (assign_ok hF hs ho hbd I' r') (fun _ s2 o => ?_) fun _ _ x => x
      obtain ⟨I2, S2⟩ := o
      have hn2 : s2.heap.Ns c m := hn.at' fun o e => haw.keep S2 e
      refine ⟨m, hn2, fun h' hs' => ?_⟩
      have kk : ∀ a o, a ∉ [c] → s2.heap.get? a = some o → h'.get? a = some o := fun a o ha e => (hs'.2 a fun q => ha (by simp [q])).trans e
      obtain ⟨I'', tk⟩ := I2.asides (fp := [c]) (h' := h') (t := s2.toks) (fun b hb => by rw [List.mem_singleton.mp hb]; exact haw) (fun b hb => by rw [List.mem_singleton.mp hb]; exact away_ns hn2) kk
      exact ⟨.next, ρ', σ', I'', (S'.trans S2).asides (fun b hb => by rw [List.mem_singleton.mp hb]; exact hsc) tk kk, rfl, q'⟩
end
end Mine

set_option linter.unusedVariables false
set_option autoImplicit false
namespace Mine
open PySem PySem.Calls PyProof.Rows PySem.SeqAt PySem.W

/-! binding parameters -/
def bindR : List (Str × V) → Loc → Loc
  | [], ρ => ρ
  | (n, v) :: r, ρ => bindR r (ρ.set n v)
theorem bindL_ok {G : Gl} {h : Heap} {kd : Str → Option NameKind} : ∀ {ns : List Str} {as : List V} {vs : List Value} {ρ : Loc} {m : Str → Option Value}, RelL G h as vs →
    (∀ x v, ρ x = some v → kd x = some .local → ∃ u, m x = some u ∧ Rel G h v u) → ∀ x v, bindR (ns.zip as) ρ x = some v → kd x = some .local → ∃ u, bindL kd (ns.zip vs) m x = some u ∧ Rel G h v u
  | [], _, _, ρ, m, _, k, x, v, e, hk => k x v e hk
  | n :: ns, [], vs, ρ, m, r, k, x, v, e, hk => by rw [r.nil']; exact k x v e hk
  | n :: ns, a :: as, vs, ρ, m, r, k, x, v, e, hk => by
    obtain ⟨u, us, rfl, r1, r2⟩ := r.split
    refine bindL_ok (ns := ns) (as := as) (vs := us) (ρ := ρ.set n a) r2 (fun y w ey hy => ?_) x v e hk
    rcases rel_lookup ey with ⟨rfl, rfl⟩ | ⟨hne, ey⟩
    · rw [if_pos hy]; exact ⟨u, if_pos rfl, r1⟩
    · obtain ⟨u', h1, h2⟩ := k y w ey hy
      split
      · exact ⟨u', by show (if y = n then some u else m y) = some u'; rw [if_neg hne]; exact h1, h2⟩
      · exact ⟨u', h1, h2⟩
theorem bindC_ok {G : Gl} {h : Heap} {kd : Str → Option NameKind} : ∀ {ns : List Str} {as : List V} {vs : List Value} {ρ : Loc} {m : Str → Option Value}, RelL G h as vs →
    (∀ x v, ρ x = some v → kd x ≠ some .local → ∃ u, m x = some u ∧ Rel G h v u) → ∀ x v, bindR (ns.zip as) ρ x = some v → kd x ≠ some .local → ∃ u, bindC kd (ns.zip vs) m x = some u ∧ Rel G h v u
  | [], _, _, ρ, m, _, k, x, v, e, hk => k x v e hk
  | n :: ns, [], vs, ρ, m, r, k, x, v, e, hk => by rw [r.nil']; exact k x v e hk
  | n :: ns, a :: as, vs, ρ, m, r, k, x, v, e, hk => by
    obtain ⟨u, us, rfl, r1, r2⟩ := r.split
    refine bindC_ok (ns := ns) (as := as) (vs := us) (ρ := ρ.set n a) r2 (fun y w ey hy => ?_) x v e hk
    rcases rel_lookup ey with ⟨rfl, rfl⟩ | ⟨hne, ey⟩
    · rw [if_neg hy]; exact ⟨u, if_pos rfl, r1⟩
    · obtain ⟨u', h1, h2⟩ := k y w ey hy
      split
      · exact ⟨u', h1, h2⟩
      · exact ⟨u', by show (if y = n then some u else m y) = some u'; rw [if_neg hne]; exact h1, h2⟩

theorem cellsFrom_mem {n : Str} {c : Addr} : ∀ {l : List (Str × NameKind)} {k : Nat} {acc : List (Str × Addr)}, (n, c) ∈ cellsFrom k l acc → (n, c) ∈ acc ∨ (n, .cell) ∈ l
  | [], k, acc, h => .inl h
  | (m, kd) :: r, k, acc, h => by
    unfold cellsFrom at h
    split at h
    · rename_i hk
      have : kd = .cell := by simpa using hk
      subst this
      rcases cellsFrom_mem h with h | h
      · rcases List.mem_cons.mp h with h | h
        · cases h; exact .inr (.head _)
        · exact .inl h
      · exact .inr (.tail _ h)
    · rcases cellsFrom_mem h with h | h
      · exact .inl h
      · exact .inr (.tail _ h)
theorem cellsFrom_has {n : Str} : ∀ {l : List (Str × NameKind)} {k : Nat} {acc : List (Str × Addr)}, ((n, .cell) ∈ l ∨ ∃ c, (n, c) ∈ acc) → ∃ c, (n, c) ∈ cellsFrom k l acc
  | [], k, acc, h => by
    rcases h with h | h
    · cases h
    · exact h
  | (m, kd) :: r, k, acc, h => by
    unfold cellsFrom
    split
    · rename_i hk
      refine cellsFrom_has ?_
      rcases h with h | ⟨c, h⟩
      · rcases List.mem_cons.mp h with h | h
        · cases h; exact .inr ⟨k, .head _⟩
        · exact .inl h
      · exact .inr ⟨c, .tail _ h⟩
    · rename_i hk
      refine cellsFrom_has ?_
      rcases h with h | h
      · rcases List.mem_cons.mp h with h | h
        · cases h; exact absurd rfl hk
        · exact .inl h
      · exact .inr h

/-- a def's scope is plain -/
structure FnScope (scope : Scope) (names : List Str) : Prop where
  kind : scope.kind = .function
  co : scope.isCoroutine = false
  gen : scope.isGenerator = false
  nofree : ∀ p ∈ scope.names, p.2 ≠ .free ∧ (p.2 = .cell → scope.names.lookup p.1 = some .cell)
  dbg : scope.names.lookup (Str.ofString "__debug__") = none
  cd : scope.names.lookup (Str.ofString "__classdict__") = none
  par : ∀ x ∈ names, scope.names.lookup x = some .local ∨ scope.names.lookup x = some .cell

def SubS (σ σ' : Store) : Prop := ∀ a c, σ a = some c → σ' a = some c
theorem SubS.refl (σ : Store) : SubS σ σ := fun _ _ e => e
theorem SubS.set {σ σ' : Store} {a : Addr} {c : Cell} (h : SubS σ σ') (ha : σ a = none) : SubS σ (σ'.set a c) := fun b d e => by
  by_cases q : b = a
  · subst q; rw [ha] at e; cases e
  · rw [Store.set_ne q]; exact h b d e
theorem SubS.set2 {σ σ' : Store} {a : Addr} {c : Cell} (h : SubS σ σ') : SubS (σ.set a c) (σ'.set a c) := fun b d e => by
  by_cases q : b = a
  · subst q; rw [Store.set_same] at e ⊢; exact e
  · rw [Store.set_ne q] at e ⊢; exact h b d e
theorem SubS.none {σ σ' : Store} {a : Addr} (h : SubS σ σ') (ha : σ' a = none) : σ a = none := by
  cases q : σ a with
  | none => rfl
  | some c => rw [h a c q] at ha; cases ha
/-- what a call gives back: cells that nobody speaks of any more may be forgotten -/
def retQ (Q : QV) : QS := fun fl _ σ => match fl with
  | .ret v => ∃ σ', SubS σ' σ ∧ Q v σ'
  | .next => ∃ σ', SubS σ' σ ∧ Q .none σ'
  | _ => False

def fnFm (F : Fm) (env : Env) (h : Heap) (σ : Store) : Fm := { A := F.A.deeper env, fs := env :: F.fs, env := env, own := env.locals :: (env.cells.filter fun p => env.cells.lookup p.1 == some p.2).map (·.2), he := h, σe := σ }

section
variable {C : Cx} {D : Dm} {F : Fm} {ρ : Loc} {σ : Store} {s : Shared}

theorem Inv.awayN {b : Addr} (I : Inv C F ρ σ s) (hn : s.heap.get? b = none) : Away C F σ b := by
  have hn' : ∀ o, s.heap.get? b ≠ some o := fun o q => by rw [hn] at q; cases q
  refine ⟨?_, ?_, ?_, ?_, ?_, ?_, ?_⟩
  · cases q : C.s0.heap.get? b with
    | none => rfl
    | some o => exact absurd (I.keep0 b o q) (hn' o)
  · cases q : σ b with
    | none => rfl
    | some c => obtain ⟨o, ho, _⟩ := (I.sto b c q).1.obj; exact absurd ho (hn' o)
  · intro h; obtain ⟨o, ho, _⟩ := I.ownObj b h; exact hn' o ho
  · intro h; obtain ⟨m, hm⟩ := I.frNs b h; obtain ⟨o, ho, _⟩ := Ns.notTup hm; exact hn' o ho
  · intro x hx; obtain ⟨u, ⟨o, ho, _⟩, _⟩ := I.cel x b hx; exact hn' o ho
  · cases q : F.he.get? b with
    | none => rfl
    | some o => have := I.dom b (by rw [q]; rfl); rw [hn] at this; cases this
  · rintro rfl; have := I.st2; rw [hn] at this; cases this

theorem fn_frame {name : Str} {params : Arguments} {body : List Stmt} {scope : Scope} {pm cd doc : Value} {names : List Str} {a : Addr} {n : Nat} (hsc : FnScope scope names) (hF : FmOk C F (n + 1)) (I : Inv C F ρ σ s)
    {args : List V} {vals : List Value} (r : RelL C.G s.heap args vals) {s₁ : Shared} (hin : let fd := docDef name params body scope pm cd doc
      InCallC s (callEnvC fd s.heap.objs.size a).locals (bindL (callEnvC fd s.heap.objs.size a).kindOf (names.zip vals) fun _ => none) (callEnvC fd s.heap.objs.size a).cells (bindC (callEnvC fd s.heap.objs.size a).kindOf (names.zip vals) fun _ => none) s₁) :
    let F' := fnFm F (callEnvC (docDef name params body scope pm cd doc) s.heap.objs.size a) s.heap σ
    FmOk C F' n ∧ ScOk (fun x => scope.names.lookup x) F'.env ∧ OwnCells F' (fun x => scope.names.lookup x) ∧ Inv C F' (bindR (names.zip args) fun _ => none) σ s₁ := by
  intro F'
  generalize hfd : docDef name params body scope pm cd doc = fd at hin
  have hscope : fd.scope = scope := by rw [← hfd]; rfl
  have hglob : fd.globals = mainGlobals := by rw [← hfd]; rfl
  have hbui : fd.builtins = builtinsNs := by rw [← hfd]; rfl
  have hF' : F' = fnFm F (callEnvC fd s.heap.objs.size a) s.heap σ := by rw [← hfd]
  clear_value F'
  subst hF'
  generalize hL : s.heap.objs.size = L at hin ⊢
  have ekind : ∀ x, (callEnvC fd L a).kindOf x = scope.names.lookup x := fun x => by rw [← hscope]; rfl
  have ecells : (callEnvC fd L a).cells = cellsFrom (L + 1) scope.names [] := by rw [← hscope]; rfl
  have eloc : (callEnvC fd L a).locals = L := rfl
  have efr : (callEnvC fd L a).frame = some L := rfl
  obtain ⟨⟨same, hns, keep, fresh⟩, hcell, hapart, habove⟩ := hin
  rw [eloc] at hns habove fresh
  generalize henv : callEnvC fd L a = env at *
  have efrs : frs (env :: F.fs) = L :: frs F.fs := by simp [frs, efr]
  have hnone : ∀ b, @LE.le Nat _ L b → s.heap.get? b = none := fun b hb => by
    cases q : s.heap.get? b with
    | none => rfl
    | some o => have : @LT.lt Nat _ b s.heap.objs.size := Heap.lt_size q; omega
  have cellAb : ∀ x c, env.cells.lookup x = some c → @LT.lt Nat _ L c := fun x c e => habove x c (lookup_mem e)
  have awL : Away C F σ L := I.awayN (hnone L (Nat.le_refl _))
  have awC : ∀ x c, env.cells.lookup x = some c → Away C F σ c := fun x c e => I.awayN (hnone c (Nat.le_of_lt (cellAb x c e)))
  have ownAw : ∀ b ∈ L :: (env.cells.filter fun p => env.cells.lookup p.1 == some p.2).map (·.2), Away C F σ b ∧ s.heap.get? b = none := fun b hb => by
    rcases List.mem_cons.mp hb with rfl | hb
    · exact ⟨awL, hnone _ (Nat.le_refl _)⟩
    · obtain ⟨⟨x, c⟩, hc, rfl⟩ := List.mem_map.mp hb
      have : @LT.lt Nat _ L c := habove x c (List.mem_filter.mp hc).1
      exact ⟨I.awayN (hnone c (Nat.le_of_lt this)), hnone c (Nat.le_of_lt this)⟩
  have isCell : ∀ x c, env.cells.lookup x = some c → env.kindOf x = some .cell := fun x c e => by
    have hm := lookup_mem e
    rw [ecells] at hm
    rcases cellsFrom_mem hm with h | h
    · cases h
    · rw [ekind]; exact (hsc.nofree _ h).2 rfl
  have hasCell : ∀ x, env.kindOf x = some .cell → ∃ c, env.cells.lookup x = some c := fun x e => by
    rw [ekind] at e
    obtain ⟨c, hc⟩ := cellsFrom_has (k := L + 1) (acc := []) (.inl (lookup_mem e))
    rw [← ecells] at hc
    exact mem_lookup hc
  have skind : env.scope.kind = .function := by rw [← henv]; show fd.scope.kind = _; rw [hscope]; exact hsc.kind
  have hown : (fnFm F env s.heap σ).own = L :: (env.cells.filter fun p => env.cells.lookup p.1 == some p.2).map (·.2) := by show env.locals :: _ = _; rw [eloc]
  refine ⟨?_, ?_, ?_, ?_⟩
  · exact
    { handled := hF.handled
      frames := by show F.A.frames.map (env :: ·) = _; rw [hF.frames]; rfl
      room := by
        obtain ⟨h1, h2⟩ := hF.room
        refine ⟨?_, ?_⟩
        · show F.A.depth + 1 + n < _; omega
        · show F.A.units + 3 + 10 * n + 40 < _; omega
      kind := skind
      globals := by show env.globals = _; rw [← henv]; exact hglob
      builtins := by show env.builtins = _; rw [← henv]; exact hbui
      inter := by show interactive env = false; simp [interactive, skind]
      locOwn := .head _
      cellKind := hasCell
      freeKind := fun x e => by
        have e : env.kindOf x = some .free := e
        rw [ekind] at e
        exact absurd rfl (hsc.nofree _ (lookup_mem e)).1
      cellInj := fun x y c e1 e2 => name_of_addr hapart (lookup_mem e1) (lookup_mem e2)
      cellApart := fun x c e => by
        have : @LT.lt Nat _ L c := cellAb x c e
        refine ⟨fun q => ?_, fun q => ?_⟩
        · have q : c = env.locals := q
          rw [eloc] at q; exact Nat.ne_of_gt this q
        · have q : c ∈ frs (env :: F.fs) := q
          rw [efrs] at q
          rcases List.mem_cons.mp q with q | q
          · exact Nat.ne_of_gt this q
          · exact (awC x c e).fr q
      cellsKind := fun x c e => .inl (isCell x c e)
      noDbg := by show env.kindOf (Str.ofString "__debug__") = none; rw [ekind]; exact hsc.dbg
      noCd := by show env.kindOf (Str.ofString "__classdict__") = none; rw [ekind]; exact hsc.cd }
  · intro x; exact .inl (ekind x).symm
  · intro x e
    obtain ⟨c, hc⟩ := hasCell x (by rw [ekind]; exact e)
    exact ⟨c, hc, .tail _ (List.mem_map.mpr ⟨(x, c), List.mem_filter.mpr ⟨lookup_mem hc, by simp [hc]⟩, rfl⟩)⟩
  · have e₁ : ∃ h t, s₁ = { s with heap := h, toks := t } := same
    obtain ⟨h₁, t₁, rfl⟩ := e₁
    have J : Inv C F ρ σ { s with heap := h₁, toks := t₁ } := I.ext keep
    have tk : TK s.heap h₁ := TK.of_keep keep
    exact
    { same := J.same
      keep0 := J.keep0
      frames := by
        obtain ⟨o, es, ep, ho, hd, _⟩ := hns
        exact ⟨by rw [skind]; decide, ⟨L, o, efr, awL.s0, ho, fun vs e => by rw [hd] at e; cases e⟩, J.frames⟩
      frNs := fun b hb => by
        have hb : b ∈ frs (env :: F.fs) := hb
        rw [efrs] at hb
        rcases List.mem_cons.mp hb with rfl | hb
        · exact ⟨_, hns⟩
        · exact J.frNs b hb
      loc := ⟨_, by show h₁.Ns env.locals _; rw [eloc]; exact hns, fun x v e k => bindL_ok (kd := env.kindOf) (ρ := fun _ => none) (m := fun _ => none) (r.mono tk) (fun x v (e : none = some v) _ => nomatch e) x v e k⟩
      cel := fun x c e => ⟨_, hcell x c e, fun v q k => by
        have := bindC_ok (kd := env.kindOf) (ρ := fun _ => none) (m := fun _ => none) (r.mono tk) (fun x v (e : none = some v) _ => nomatch e) x v q (by have := isCell x c e; rw [this]; simp)
        obtain ⟨u, h1, h2⟩ := this
        exact ⟨u, h1, h2⟩⟩
      sto := fun b c e => by
        obtain ⟨g1, g2, g3, g4, g5, g6⟩ := J.sto b c e
        refine ⟨g1, g2, fun q => ?_, fun q => ?_, fun x q => ?_, g6⟩
        · rw [hown] at q
          have := (ownAw b q).1.st
          rw [e] at this; cases this
        · have q : b ∈ frs (env :: F.fs) := q
          rw [efrs] at q
          rcases List.mem_cons.mp q with rfl | q
          · have := awL.st; rw [e] at this; cases this
          · exact g4 q
        · have := (awC x b q).st; rw [e] at this; cases this
      ownNew := fun b hb => by rw [hown] at hb; exact ⟨(ownAw b hb).1.s0, (ownAw b hb).2⟩
      ownObj := fun b hb => by
        rw [hown] at hb
        rcases List.mem_cons.mp hb with rfl | hb
        · exact Ns.notTup hns
        · obtain ⟨⟨x, c⟩, hc, rfl⟩ := List.mem_map.mp hb
          have hc' : env.cells.lookup x = some c := by simpa using (List.mem_filter.mp hc).2
          obtain ⟨o, h1, h2⟩ := hcell x c hc'
          exact ⟨o, h1, fun xs k e => by rw [h2] at e; cases e⟩
      kept := fun b o e _ _ => keep b o e
      ns := fun b hb _ m hm => hm.at' fun o e => keep b o e
      new := fun b e e' => by
        have e1 : σ b = none := e
        rw [e1] at e'; cases e'
      dom := fun b e => by
        cases q : s.heap.get? b with
        | none => have e : (s.heap.get? b).isSome = true := e; rw [q] at e; cases e
        | some o => show (h₁.get? b).isSome = true; rw [keep b o q]; rfl
      lo := .head _
      st2 := J.st2 }
end
end Mine

set_option linter.unusedVariables false
set_option autoImplicit false
namespace Mine
open PySem PySem.Calls PyProof.Rows PySem.SeqAt PySem.W

section
variable {C : Cx} {D : Dm} {F F' : Fm} {ρ : Loc} {σ : Store} {s : Shared}

theorem holes_stay {h : Heap} {fp : List Addr} : (holes h fp).StaysIn h := fun b o e => by
  by_cases q : b ∈ fp
  · rw [holes_in q] at e; cases e
  · rw [holes_ne q] at e; exact e

theorem funFrames_holes {h h0 : Heap} {fp : List Addr} : ∀ {l : List Env}, h.FunFrames h0 l → (∀ b ∈ frs l, b ∈ fp) → h.FunFrames (holes h fp) l
  | [], _, _ => trivial
  | env :: rest, ⟨hk, ⟨L, o, hf, hn, ho, hd⟩, hr⟩, hs => by
    have e : frs (env :: rest) = L :: frs rest := by simp [frs, hf]
    rw [e] at hs
    exact ⟨hk, ⟨L, o, hf, holes_in (hs L (.head _)), ho, hd⟩, funFrames_holes hr fun b hb => hs b (.tail _ hb)⟩

/-- an exception leaves the frame of a call -/
theorem flown_leaves {env : Env} {L : Addr} {n : Nat} (I : Inv C F ρ σ s) (hF : FmOk C F n) (hfs : F'.fs = env :: F.fs) (hA : F'.A.frames = some (env :: F.fs)) (hf : env.frame = some L) (hL : s.heap.get? L = none) (hhe : F'.he = s.heap) (hσ : F'.σe = σ)
    {ρ' : Loc} {σ' : Store} {e : Addr} {s' : Shared} (h : Flown C F' ρ' σ' e s' ∨ Made C F' ρ' σ' e s') {Q : Unit → Shared → Prop} {E : Value → Shared → Prop}
    (hQ : ∀ h', Flown C F ρ σ' e { s' with heap := h' } → Q () { s' with heap := h' }) : wpAny C.M F'.A (leaving env (.ref e)) Q E s' := by
  have efrs : frs F'.fs = L :: frs F.fs := by rw [hfs]; simp [frs, hf]
  have back : ∀ {hr : Heap} {t : Tok}, Inv C F' ρ' σ' { s' with heap := hr, toks := t } → Inv C F ρ σ' { s' with heap := hr, toks := t } ∧ Away C F σ' L ∧ ∀ b ∈ frs F'.fs, ∀ o, hr.get? b = some o → ¬ TupO o := by
    intro hr t J
    have hfr2 : hr.FunFrames C.s0.heap F.fs := by have := J.frames; rw [hfs] at this; exact this.2.2
    have hb := I.back hF J (fp := []) (fun b hb => nomatch hb) (fun b _ => by rw [hhe]) hσ (fun b hb => by
      rw [efrs] at hb
      rcases List.mem_cons.mp hb with rfl | hb
      · exact .inr hL
      · exact .inl hb) (fun b hb => by rw [efrs]; exact .tail _ hb) hfr2
    refine ⟨hb.1, ?_, fun b hb => by obtain ⟨m, hm⟩ := J.frNs b hb; exact away_ns hm⟩
    have a := I.awayN hL
    refine { a with st := ?_ }
    cases q : σ' L with
    | none => rfl
    | some c => exact absurd (by rw [efrs]; exact .head _) (J.sto L c q).2.2.2.1
  rcases h with ⟨hr, t, cls, hcls, J, B, a0, S, hfl, hB, hup, hS⟩ | ⟨hr, t, cls, hcls, J, args, hx⟩
  · obtain ⟨I', awL, frNT⟩ := back J
    rw [hfs] at hfl
    refine wpAny_leaves_onW hA hf hfl fun h' hfly hup2 => ?_
    refine hQ h' ⟨hr, t, cls, hcls, I', B, a0, S, hfly, hB, fun b o e hnf => ?_, fun b hb => ⟨?_, (hS b hb).2⟩⟩
    · obtain ⟨sl, h1⟩ := hup b o e hnf
      obtain ⟨sl2, h2⟩ := hup2 b _ h1 hnf
      exact ⟨sl2, h2⟩
    · rcases (hS b hb).1 with h | h
      · rw [efrs] at h
        rcases List.mem_cons.mp h with rfl | h
        · exact .inr awL
        · exact .inl h
      · have hn : s.heap.get? b = none := by have := h.he; rw [hhe] at this; exact this
        exact .inr { I.awayN hn with st := h.st }
  · obtain ⟨I', awL, frNT⟩ := back J
    refine wpAny_leaves_madeW (base := holes hr (frs F'.fs)) (outer := F.fs) hA hf holes_stay ?_ hx fun h' t' hfly _ _ hup => ?_
    · have := J.frames
      rw [← hfs]
      exact funFrames_holes this fun b hb => hb
    · refine hQ h' ⟨hr, t, cls, hcls, I', _, _, frs F'.fs, hfly, fun b o hb e => by rw [holes_ne hb]; exact e, fun b o e hnf => hup b o (hx.keeps b o e) hnf, fun b hb => ⟨?_, frNT b hb⟩⟩
      rw [efrs] at hb
      rcases List.mem_cons.mp hb with rfl | hb
      · exact .inr awL
      · exact .inl hb

theorem fnOk_of_body (hC : CxOk C) (hD : DmOk C D) {f : Str} {t : FnT} {a : Addr} {o : Obj} {name : Str} {params : Arguments} {body : List Stmt} {scope : Scope} {pm cd doc : Value} {names : List Str} {n : Nat}
    (hmg : C.G.mg f = some (.ref a)) (ho : C.s0.heap.get? a = some o) (hdat : o.data = .func (docDef name params body scope pm cd doc)) (hcd : C.s0.heap.CodeRec cd name)
    (hbind : ∀ vals : List Value, vals.length = names.length → bindArgs (docDef name params body scope pm cd doc) ⟨vals, []⟩ = pure (names.zip vals)) (hsc : FnScope scope names)
    (hbody : SndSs C D body) (hn : D.lvl + 1 ≤ n)
    (hspec : ∀ args σ Q X, t args σ Q X → args.length = names.length ∧ wpSs D body (fun x => scope.names.lookup x) (bindR (names.zip args) fun _ => none) σ (retQ Q) X) : FnOk C f t n := by
  refine ⟨a, o, _, hmg, ho, hdat, fun F ρ σ s args vals Q X E hF I r ht hE => ?_⟩
  obtain ⟨hlen, hw⟩ := hspec args σ Q X ht
  have hF1 : FmOk C F (D.lvl + 1) := hF.mono hn
  have hvl : vals.length = names.length := by rw [r.length, hlen]
  refine wpAny_call (codeAny_call_cells (by have := hF1.room.1; omega) (I.keep0 _ _ ho) hdat (hC.nolimit.keeps I.keep0) (hcd.keeps I.keep0) rfl (hbind vals hvl) rfl (fun x hx => ?_) (fun s₁ hin => ?_) hsc.co hsc.gen hsc.kind)
  · have hx1 : x.1 ∈ names := by obtain ⟨y, z⟩ := x; exact (List.of_mem_zip hx).1
    rcases hsc.par _ hx1 with h | h
    · exact .inl h
    · refine .inr ⟨h, ?_⟩
      obtain ⟨c, hc⟩ := cellsFrom_has (k := s.heap.objs.size + 1) (acc := []) (.inl (lookup_mem h))
      obtain ⟨d, hd⟩ := mem_lookup hc
      show ((cellsFrom (s.heap.objs.size + 1) scope.names []).lookup x.1).isSome = true
      rw [hd]; rfl
  · obtain ⟨F2, sc2, ow2, I2⟩ := fn_frame hsc hF1 I r hin
    generalize hfd : docDef name params body scope pm cd doc = fd at F2 sc2 ow2 I2 ⊢
    generalize henv : callEnvC fd s.heap.objs.size a = env at F2 sc2 ow2 I2 ⊢
    have efr : env.frame = some s.heap.objs.size := by rw [← henv]; rfl
    have eloc : env.locals = s.heap.objs.size := by rw [← henv]; rfl
    have hLn : s.heap.get? s.heap.objs.size = none := none_at _
    have efrs : frs (env :: F.fs) = s.heap.objs.size :: frs F.fs := by simp [frs, efr]
    have hA : (fnFm F env s.heap σ).A.frames = some (env :: F.fs) := by show F.A.frames.map (env :: ·) = _; rw [hF.frames]; rfl
    refine wpAny_mono (hbody (fnFm F env s.heap σ) _ _ σ (retQ Q) X s₁ (fun e s' => wpAny C.M (F.A.deeper env) (leaving env e) (fun _ s'' => E e s'') (fun e' s'' => E e' s'') s') F2 sc2 ow2 ⟨F.fs, rfl, by show env.frame = some env.locals; rw [eloc]; exact efr⟩ hw I2 (fun ρ' => ⟨fun e σ' s' hfl hX => ?_, fun e σ' s' hfl hX => ?_⟩) PassesOwn.leaving) (fun fl s' ok => ?_) fun _ _ x => x
    · exact flown_leaves I hF rfl hA efr hLn rfl rfl (.inl hfl) fun h' hfl' => hE e σ' _ hfl' hX
    · exact flown_leaves I hF rfl hA efr hLn rfl rfl (.inr hfl) fun h' hfl' => hE e σ' _ hfl' hX
    · obtain ⟨fl', ρ', σ', J, S', rf, q⟩ := ok
      have hb := I.back hF J (fp := []) (fun b hb => nomatch hb) (fun b _ => rfl) rfl (fun b hb => by
        have hb : b ∈ frs (env :: F.fs) := hb
        rw [efrs] at hb
        rcases List.mem_cons.mp hb with rfl | hb
        · exact .inr hLn
        · exact .inl hb) (fun b hb => by show b ∈ frs (env :: F.fs); rw [efrs]; exact .tail _ hb) J.frames.2.2
      obtain ⟨I', hS⟩ := hb
      have S := hS σ s.heap (Stp.refl _ _ _) fun b hb => nomatch hb
      cases fl' with
      | next => cases rf; obtain ⟨σ2, hs2, q⟩ := q; exact ⟨.none, σ2, I'.drop hs2, S.drop hs2, by simp [Rel], q⟩
      | ret v => obtain ⟨u, rfl, hu⟩ := rf; obtain ⟨σ2, hs2, q⟩ := q; exact ⟨v, σ2, I'.drop hs2, S.drop hs2, hu, q⟩
      | brk => exact q.elim
      | cont => exact q.elim
end
end Mine

set_option linter.unusedVariables false
set_option autoImplicit false
namespace Mine
open PySem PySem.Calls PyProof.Rows PySem.SeqAt PySem.W

section
variable {C : Cx} {D : Dm}
def SndX (C : Cx) (D : Dm) (e : Expr) : Prop := SndE C D e ∧ SndT C D e ∧ SndE C D (headOf e).2

theorem sndX_of {e : Expr} (h1 : SndE C D e) (h2 : SndT C D e) (hh : (headOf e).2 = e := by rfl) : SndX C D e := ⟨h1, h2, by rw [hh]; exact h1⟩
theorem sndX_never {e : Expr} (h : ∀ sc ρ σ Q X, ¬ wpE D e sc ρ σ Q X) (hh : (headOf e).2 = e := by rfl) : SndX C D e :=
  sndX_of (fun F sc ρ σ Q X s E hF hs hw I hE => absurd hw (h _ _ _ _ _)) (fun F sc ρ σ Q K X s E hF hs hw hQ I hE => absurd hw (h _ _ _ _ _)) hh
theorem sndX_value {e : Expr} (he : SndE C D e) (hw : ∀ env whole, isTrue e env whole = (do let v ← whole; standAt e.pos; holding [v] (truthy v))) (hh : (headOf e).2 = e := by rfl) : SndX C D e := sndX_of he (sndT_value he hw) hh

theorem sndL_starred {v : Expr} {p : Pos} {es : List Expr} : SndL C D (.Starred v p :: es) := fun F sc ρ σ Q X s E p hF hs h I hE => by
  exact (show False from h).elim
theorem sndL_cons' {e : Expr} {es : List Expr} (he : SndE C D e) (hes : SndL C D es) : SndL C D (e :: es) := by
  by_cases h : ∃ v p, e = .Starred v p
  · obtain ⟨v, p, rfl⟩ := h; exact sndL_starred
  · exact sndL_cons he hes fun v p q => h ⟨v, p, q⟩

mutual
theorem sndE (hC : CxOk C) (hD : DmOk C D) : ∀ e : Expr, SndX C D e
  | .Constant c k p => sndX_value (sndConst c k p) fun _ _ => rfl
  | .Name x p => sndX_value (sndName hC hD x p) fun _ _ => rfl
  | .BinOp l op r p => sndX_value (sndBin (sndE hC hD l).1 (sndE hC hD r).1) fun _ _ => rfl
  | .UnaryOp op e p => sndX_of (sndUn (sndE hC hD e).1) (match op with
    | .Not => sndT_not (sndE hC hD e).2.1
    | .USub => sndT_value (sndUn (sndE hC hD e).1) fun _ _ => rfl
    | .UAdd => sndT_value (sndUn (sndE hC hD e).1) fun _ _ => rfl
    | .Invert => sndT_value (sndUn (sndE hC hD e).1) fun _ _ => rfl)
  | .BoolOp op es p => sndX_of (sndBool (sndBs hC hD es)) (sndT_bool (sndBs hC hD es))
  | .Compare l [op] [r] p => sndX_of (sndCmp (sndE hC hD l).1 (sndE hC hD r).1) (sndT_cmp' (sndE hC hD l).1 (sndE hC hD r).1)
  | .Compare l [] rs p => sndX_never fun _ _ _ _ _ h => (show False from h).elim
  | .Compare l (_ :: _ :: _) rs p => sndX_never fun _ _ _ _ _ h => (show False from h).elim
  | .Compare l [op] [] p => sndX_never fun _ _ _ _ _ h => (show False from h).elim
  | .Compare l [op] (_ :: _ :: _) p => sndX_never fun _ _ _ _ _ h => (show False from h).elim
  | .IfExp t a b p => sndX_of (sndIf (sndE hC hD t).2.1 (sndE hC hD a).1 (sndE hC hD b).1) (sndT_if (sndE hC hD t).2.1 (sndE hC hD a).2.1 (sndE hC hD b).2.1)
  | .Tuple es k p => sndX_value (sndTuple (sndLs hC hD es)) fun _ _ => rfl
  | .List es p => sndX_value (sndList (sndLs hC hD es)) fun _ _ => rfl
  | .Call (.Attribute o m ap) args [] p => sndX_value (sndMeth (sndE hC hD o).1 (sndLs hC hD args)) fun _ _ => rfl
  | .Call (.Name f q) [] [] p => sndX_value (sndCall hC hD sndL_nil) fun _ _ => rfl
  | .Call (.Name f q) [e] [] p => by
    have h1 : SndE C D (.Call (.Name f q) [e] [] p) := sndCall hC hD (sndL_cons' (sndE hC hD e).1 sndL_nil)
    refine ⟨h1, sndT_value h1 fun _ _ => rfl, ?_⟩
    rw [headOf_call]
    split
    · exact (sndE hC hD e).1
    · exact h1
  | .Call (.Name f q) (e :: e2 :: es) [] p => sndX_value (sndCall hC hD (sndL_cons' (sndE hC hD e).1 (sndL_cons' (sndE hC hD e2).1 (sndLs hC hD es)))) fun _ _ => rfl
  | .Call f args (k :: ks) p => sndX_never (fun _ _ _ _ _ => call_kw) (by unfold headOf; split <;> first | rfl | (rename_i h; cases h))
  | .Call (.BoolOp ..) args [] p => sndX_never fun _ _ _ _ _ h => (show False from h).elim
  | .Call (.NamedExpr ..) args [] p => sndX_never fun _ _ _ _ _ h => (show False from h).elim
  | .Call (.BinOp ..) args [] p => sndX_never fun _ _ _ _ _ h => (show False from h).elim
  | .Call (.UnaryOp ..) args [] p => sndX_never fun _ _ _ _ _ h => (show False from h).elim
  | .Call (.Lambda ..) args [] p => sndX_never fun _ _ _ _ _ h => (show False from h).elim
  | .Call (.IfExp ..) args [] p => sndX_never fun _ _ _ _ _ h => (show False from h).elim
  | .Call (.Dict ..) args [] p => sndX_never fun _ _ _ _ _ h => (show False from h).elim
  | .Call (.Set ..) args [] p => sndX_never fun _ _ _ _ _ h => (show False from h).elim
  | .Call (.ListComp ..) args [] p => sndX_never fun _ _ _ _ _ h => (show False from h).elim
  | .Call (.SetComp ..) args [] p => sndX_never fun _ _ _ _ _ h => (show False from h).elim
  | .Call (.DictComp ..) args [] p => sndX_never fun _ _ _ _ _ h => (show False from h).elim
  | .Call (.GeneratorExp ..) args [] p => sndX_never fun _ _ _ _ _ h => (show False from h).elim
  | .Call (.Await ..) args [] p => sndX_never fun _ _ _ _ _ h => (show False from h).elim
  | .Call (.Yield ..) args [] p => sndX_never fun _ _ _ _ _ h => (show False from h).elim
  | .Call (.YieldFrom ..) args [] p => sndX_never fun _ _ _ _ _ h => (show False from h).elim
  | .Call (.Compare ..) args [] p => sndX_never fun _ _ _ _ _ h => (show False from h).elim
  | .Call (.Call ..) args [] p => sndX_never fun _ _ _ _ _ h => (show False from h).elim
  | .Call (.FormattedValue ..) args [] p => sndX_never fun _ _ _ _ _ h => (show False from h).elim
  | .Call (.JoinedStr ..) args [] p => sndX_never fun _ _ _ _ _ h => (show False from h).elim
  | .Call (.Constant ..) args [] p => sndX_never fun _ _ _ _ _ h => (show False from h).elim
  | .Call (.Subscript ..) args [] p => sndX_never fun _ _ _ _ _ h => (show False from h).elim
  | .Call (.Starred ..) args [] p => sndX_never fun _ _ _ _ _ h => (show False from h).elim
  | .Call (.List ..) args [] p => sndX_never fun _ _ _ _ _ h => (show False from h).elim
  | .Call (.Tuple ..) args [] p => sndX_never fun _ _ _ _ _ h => (show False from h).elim
  | .Call (.Slice ..) args [] p => sndX_never fun _ _ _ _ _ h => (show False from h).elim
  | .Subscript v (.Slice lo hi none q) p => sndX_value (sndSlice hC hD (sndE hC hD v).1 (sndOo hC hD lo) (sndOo hC hD hi)) fun _ _ => rfl
  | .Subscript v i p => by
    by_cases h : ∃ lo hi q, i = .Slice lo hi none q
    · obtain ⟨lo, hi, q, rfl⟩ := h
      exact sndX_value (sndSlice hC hD (sndE hC hD v).1 (sndOo hC hD lo) (sndOo hC hD hi)) fun _ _ => rfl
    · exact sndX_value (sndItem hC hD (sndE hC hD v).1 (sndE hC hD i).1 fun lo hi q e => h ⟨lo, hi, q, e⟩) fun _ _ => rfl
  | .ListComp elt [⟨tgt, it, ifs, a⟩] scope p => by
    by_cases h : a = 0
    · subst h
      exact sndX_value (sndComp hC hD (sndE hC hD it).2.2 (sndE hC hD elt).1 (sndIs hC hD ifs)) fun _ _ => rfl
    · exact sndX_never fun _ _ _ _ _ => comp_async h
  | .ListComp elt [] scope p => sndX_never fun _ _ _ _ _ h => (show False from h).elim
  | .ListComp elt (_ :: _ :: _) scope p => sndX_never fun _ _ _ _ _ => comp_more
  | .NamedExpr .. => sndX_never fun _ _ _ _ _ h => (show False from h).elim
  | .Lambda .. => sndX_never fun _ _ _ _ _ h => (show False from h).elim
  | .Dict .. => sndX_never fun _ _ _ _ _ h => (show False from h).elim
  | .Set .. => sndX_never fun _ _ _ _ _ h => (show False from h).elim
  | .SetComp .. => sndX_never fun _ _ _ _ _ h => (show False from h).elim
  | .DictComp .. => sndX_never fun _ _ _ _ _ h => (show False from h).elim
  | .GeneratorExp .. => sndX_never fun _ _ _ _ _ h => (show False from h).elim
  | .Await .. => sndX_never fun _ _ _ _ _ h => (show False from h).elim
  | .Yield .. => sndX_never fun _ _ _ _ _ h => (show False from h).elim
  | .YieldFrom .. => sndX_never fun _ _ _ _ _ h => (show False from h).elim
  | .FormattedValue .. => sndX_never fun _ _ _ _ _ h => (show False from h).elim
  | .JoinedStr .. => sndX_never fun _ _ _ _ _ h => (show False from h).elim
  | .Attribute .. => sndX_never fun _ _ _ _ _ h => (show False from h).elim
  | .Starred .. => sndX_never fun _ _ _ _ _ h => (show False from h).elim
  | .Slice .. => sndX_never fun _ _ _ _ _ h => (show False from h).elim
theorem sndLs (hC : CxOk C) (hD : DmOk C D) : ∀ es : List Expr, SndL C D es
  | [] => sndL_nil
  | e :: es => sndL_cons' (sndE hC hD e).1 (sndLs hC hD es)
theorem sndBs (hC : CxOk C) (hD : DmOk C D) : ∀ es : List Expr, SndB C D es
  | [] => sndB_nil
  | e :: es => sndB_cons (sndE hC hD e).1 (sndE hC hD e).2.1 (sndBs hC hD es)
theorem sndIs (hC : CxOk C) (hD : DmOk C D) : ∀ es : List Expr, SndIfs C D es
  | [] => sndIfs_nil
  | e :: es => sndIfs_cons (sndE hC hD e).2.1 (sndIs hC hD es)
theorem sndOo (hC : CxOk C) (hD : DmOk C D) : ∀ o : Option Expr, SndO C D o
  | none => sndOn
  | some e => sndOs (sndE hC hD e).1
end
end
end Mine

set_option linter.unusedVariables false
set_option autoImplicit false
namespace Mine
open PySem PySem.Calls PyProof.Rows PySem.SeqAt PySem.W

section
variable {C : Cx} {D : Dm}

theorem sndReturn {e : Option Expr} {p : Pos} (he : ∀ e', e = some e' → SndE C D e') : SndS C D (.Return e p) := fun F sc ρ σ Q X s E hF hs ho hft h I hE hP => by
  rw [wpS_Return] at h
  cases e with
  | some e =>
    rw [wpO_some] at h
    refine wpAny_Return_some (bindE (he e rfl) hF hs h I (hE ρ).1 fun u s1 v σ1 I1 S1 r1 q1 => ?_)
    exact ⟨.ret v, ρ, σ1, I1, trivial, ⟨u, rfl, r1⟩, q1⟩
  | none =>
    rw [wpO_none] at h
    exact wpAny_Return_none ⟨.ret .none, ρ, σ, I, trivial, ⟨.none, rfl, by simp [Rel]⟩, h⟩
theorem sndPass {p : Pos} : SndS C D (.Pass p) := fun F sc ρ σ Q X s E hF hs ho hft h I hE hP => by
  rw [wpS_Pass] at h
  exact wpAny_Pass ⟨.next, ρ, σ, I, Stp.refl _ _ _, rfl, h⟩
theorem expr_ok {e : Expr} {p : Pos} (he : SndE C D e) {F : Fm} {sc : Sc} {ρ : Loc} {σ : Store} {X : XP} {K : Store → Prop} {s : Shared} {E : Value → Shared → Prop} {R : Flow → Shared → Prop} (hF : FmOk C F D.lvl) (hs : ScOk sc F.env)
    (hc : notCompB e = true) (h : wpE D e sc ρ σ (fun v σ₁ => notRef v ∧ K σ₁) X) (I : Inv C F ρ σ s) (hE : EOk C F ρ X E) (k : ∀ s1 σ1, Inv C F ρ σ1 s1 → Stp F σ σ1 s.heap s1.heap → K σ1 → R .next s1) : wpAny C.M F.A (exec (.Expr e p) F.env) R E s := by
  refine wpAny_Expr (bindE he hF hs h I hE fun u s1 v σ1 I1 S1 r1 q1 => ?_) hF.inter (by cases e <;> first | rfl | exact absurd hc (by simp [notCompB]))
  have kk := k s1 σ1 I1 S1 q1.2
  cases v with
  | none => simp only [Rel] at r1; subst r1; exact kk
  | bool b => simp only [Rel] at r1; subst r1; exact kk
  | int i => simp only [Rel] at r1; obtain ⟨t, rfl⟩ := r1; exact kk
  | str x => simp only [Rel] at r1; obtain ⟨t, rfl⟩ := r1; exact kk
  | typ n => simp only [Rel] at r1; subst r1; exact kk
  | «bif» n => simp only [Rel] at r1; subst r1; exact kk
  | tup vs => exact q1.1.elim
  | ref a => exact q1.1.elim
  | glb n => exact q1.1.elim
  | scr => exact q1.1.elim
theorem sndExpr {e : Expr} {p : Pos} (he : SndE C D e) : SndS C D (.Expr e p) := fun F sc ρ σ Q X s E hF hs ho hft h I hE hP => by
  rw [wpS_Expr] at h
  exact expr_ok he hF hs h.1 h.2 I (hE ρ).1 fun s1 σ1 I1 S1 k => ⟨.next, ρ, σ1, I1, S1, rfl, k⟩
theorem sndIfS {t : Expr} {a b : List Stmt} {p : Pos} (ht : SndT C D t) (ha : SndSs C D a) (hb : SndSs C D b) : SndS C D (.If t a b p) := fun F sc ρ σ Q X s E hF hs ho hft h I hE hP => by
  rw [wpS_If] at h
  refine wpAny_If (wpAny_mono (ht F sc ρ σ _ (fun k σ₁ => if k = true then wpSs D a sc ρ σ₁ Q X else wpSs D b sc ρ σ₁ Q X) X s E hF hs h (fun v σ₁ q => q) I (hE ρ).1) (fun c s1 o => ?_) fun _ _ x => x)
  obtain ⟨σ1, I1, S1, k⟩ := o
  cases c with
  | true => exact wpAny_mono (ha F sc ρ σ1 Q X s1 E hF hs ho hft k I1 hE hP) (fun _ _ o => o.trans S1) fun _ _ x => x
  | false => exact wpAny_mono (hb F sc ρ σ1 Q X s1 E hF hs ho hft k I1 hE hP) (fun _ _ o => o.trans S1) fun _ _ x => x
theorem sndAssignT {ts : List Expr} {k : Nat} {p p2 : Pos} {e : Expr} (he : SndE C D e) : SndS C D (.Assign [.Tuple ts k p] e p2) := fun F sc ρ σ Q X s E hF hs ho hft h I hE hP => by
  rw [wpS_AssignT] at h
  obtain ⟨hsw, h⟩ := h
  refine Assign_Tuple (bindE he hF hs h I (hE ρ).1 fun u s1 v σ1 I1 S1 r1 q1 => ?_) (by cases e <;> rfl) ?_
  · obtain ⟨ρ', hb, q⟩ := q1
    exact wpAny_mono (assign_ok hF hs ho hb I1 r1) (fun _ s2 o => ⟨.next, ρ', σ1, o.1, S1.trans o.2, rfl, q⟩) fun _ _ x => x
  · rcases hsw with ⟨h2, h3⟩ | hne
    · cases e
      case Tuple vs _ _ =>
        unfold swappedStores
        have : (!(ts.length == 2 || ts.length == 3) || vs.length != ts.length || F.env.blockKind != .function) = true := by simp [h2, h3]
        simp only [this, if_true]
      all_goals rfl
    · cases e
      case Tuple => exact absurd hne (by simp [isTup])
      all_goals rfl

theorem sndRaise (hC : CxOk C) (hD : DmOk C D) {n x : Str} {np cp cpos pos : Pos} {k : Nat} : SndS C D (.Raise (some (.Call (.Name n np) [.Constant (.str x) k cp] [] cpos)) none pos) := fun F sc ρ σ Q X s E hF hs ho hft h I hE hP => by
  rw [wpS_Raise] at h
  obtain ⟨_, n', hn', ⟨hnn, hge⟩, hsc, hX⟩ := h
  have hn' : some n = some n' := hn'
  cases hn'
  subst hnn
  obtain ⟨cb, B, newId, initId, bm0, FB, O⟩ := hC.exc.bad
  obtain ⟨tl, N, nm, q, bs, hdct, sn, sub, ab, col, dd, k0, k1, k2, k3, k5, mN, hCo, hN, hni, T⟩ := O.obj
  refine wpAny_Raise_call_subT (C := cb) (nm := nm) (q := q) (N := N) (bs := bs) (bm := tl) (hdct := hdct) (sn := sn) (sub := sub) (ab := ab) (col := col) (dd := dd) (k0 := k0) (k1 := k1) (k2 := k2) (k3 := k3) (k5 := k5)
    FB (mN := mN) (T.hasType FB.hasBase) hF.handled rfl hni (nameS_ok hC hD F sc ρ σ s hF hs I (v := .glb "BadWord") (by unfold nameS; rw [hsc]; exact hge) fun u r => ?_)
  simp only [Rel] at r
  rw [O.bound] at r
  cases r
  refine ⟨rfl, ?_⟩
  show wpAny _ _ (evalArgs (.ref cb) true [(false, eval (.Constant (.str x) k cp) F.env)] []) _ _ _
  refine Calls.evalArgs_plain (Calls.spliced_cons (Constant_str (Calls.spliced_nil ?_)))
  have kk : ∀ b o, C.s0.heap.get? b = some o → s.heap.get? b = some o := I.keep0
  refine ⟨rfl, by simp [sizeLine], kk _ _ hCo, hN.keeps kk, T.keeps kk, fun h' e hx => ?_⟩
  exact (hE ρ).2 e σ _ ⟨s.heap, s.toks, .ref cb, O.bound, I, _, hx⟩ hX

/-! catching -/
theorem Inv.land {F : Fm} {ρ : Loc} {σ : Store} {s : Shared} {hr h : Heap} {t t' : Tok} {B : Heap} {S : List Addr} (I : Inv C F ρ σ { s with heap := hr, toks := t }) (hst : B.StaysIn h) (hB : ∀ b o, b ∉ S → hr.get? b = some o → B.get? b = some o) (hup : hr.UpToSlots h)
    (hS : ∀ b ∈ S, (b ∈ frs F.fs ∨ Away C F σ b) ∧ ∀ o, hr.get? b = some o → ¬ TupO o) :
    Inv C F ρ σ { s with heap := h, toks := t' } := by
  have kept : ∀ b o, b ∉ S → hr.get? b = some o → h.get? b = some o := fun b o hb e => hst b o (hB b o hb e)
  have tk : TK hr h := fun b o e ht => kept b o (fun q => (hS b q).2 o e ht) e
  have nsk : ∀ b m, hr.Ns b m → h.Ns b m := fun b m hm => by
    obtain ⟨o, es, ep, ho, hd, hk, hf⟩ := hm
    obtain ⟨sl, h1⟩ := hup b o ho (fun vs q => by rw [hd] at q; cases q)
    exact ⟨_, es, ep, h1, hd, hk, hf⟩
  have out : ∀ b, b ∉ frs F.fs → (F.own.contains b = true → False) → True := fun _ _ _ => trivial
  have notS : ∀ b, (b ∈ frs F.fs → False) → (Away C F σ b → False) → b ∉ S := fun b h1 h2 q => by
    rcases (hS b q).1 with h | h
    · exact h1 h
    · exact h2 h
  have celIn : ∀ c o, hr.get? c = some o → (∀ vs, o.data ≠ .fields vs) → ∃ sl, h.get? c = some { o with slots := sl } := hup
  have domOf : ∀ b, b ∉ S → (hr.get? b).isSome = true → (h.get? b).isSome = true := fun b hb e => by
    cases q : hr.get? b with
    | none => rw [q] at e; cases e
    | some o => rw [kept b o hb q]; rfl
  exact
    { same := let ⟨h1, t1, e⟩ := I.same; ⟨h, t', by have e' : ({ s with heap := hr, toks := t } : Shared) = { C.s0 with heap := h1, toks := t1 } := e; cases s; cases hC0 : C.s0; simp [hC0] at e' ⊢; exact ⟨e'.2.1, e'.2.2.1, e'.2.2.2.2⟩⟩
      keep0 := fun b o e => kept b o (notS b (fun q => by
          have := I.frames.mem q; rw [this.1] at e; cases e) (fun q => by rw [q.s0] at e; cases e)) (I.keep0 b o e)
      frames := I.frames.of_keeps fun b o e hnf => let ⟨sl, h1⟩ := hup b o e hnf; ⟨_, h1, rfl⟩
      frNs := fun b hb => let ⟨m, hm⟩ := I.frNs b hb; ⟨m, nsk b m hm⟩
      loc := let ⟨m, hm, hl⟩ := I.loc; ⟨m, nsk _ m hm, fun x v e k => let ⟨u, h1, h2⟩ := hl x v e k; ⟨u, h1, h2.mono tk⟩⟩
      cel := fun x c e => by
        obtain ⟨u, ⟨o, ho, hd⟩, h2⟩ := I.cel x c e
        obtain ⟨sl, h3⟩ := hup c o ho (fun vs q => by rw [hd] at q; cases q)
        exact ⟨u, ⟨_, h3, hd⟩, fun v q k => let ⟨u', h3, h4⟩ := h2 v q k; ⟨u', h3, h4.mono tk⟩⟩
      sto := fun a c e => by
        obtain ⟨g1, g2⟩ := I.sto a c e
        exact ⟨g1.at tk fun o q => kept a o (notS a (fun z => g2.2.2.1 z) (fun z => by rw [z.st] at e; cases e)) q, g2⟩
      ownNew := I.ownNew
      ownObj := fun b hb => by
        obtain ⟨o, ho, hn⟩ := I.ownObj b hb
        by_cases q : b ∈ frs F.fs
        · obtain ⟨m, hm⟩ := I.frNs b q; exact Ns.notTup (nsk b m hm)
        · exact ⟨o, kept b o (notS b q fun z => z.own hb) ho, hn⟩
      kept := fun b o e h1 h2 => kept b o (notS b h2 fun z => by rw [z.he] at e; cases e) (I.kept b o e h1 h2)
      ns := fun b hb ho m hm => nsk b m (I.ns b hb ho m hm)
      new := I.new
      dom := fun b e => by
        by_cases q : b ∈ frs F.fs
        · obtain ⟨m, hm⟩ := I.frNs b q
          obtain ⟨o, h1, _⟩ := Ns.notTup (nsk b m hm)
          show (h.get? b).isSome = true
          rw [h1]; rfl
        · exact domOf b (notS b q fun z => by rw [z.he] at e; cases e) (I.dom b e)
      lo := I.lo
      st2 := by
        by_cases q : cStatics ∈ frs F.fs
        · obtain ⟨m, hm⟩ := I.frNs _ q
          obtain ⟨o, h1, _⟩ := Ns.notTup (nsk _ m hm)
          show (h.get? cStatics).isSome = true
          rw [h1]; rfl
        · exact domOf _ (notS _ q fun z => z.ne2 rfl) I.st2 }
end
end Mine

set_option linter.unusedVariables false
set_option autoImplicit false
namespace Mine
open PySem PySem.Calls PyProof.Rows PySem.SeqAt PySem.W

section
variable {C : Cx} {D : Dm}

/-- isinstance asked of the exception -/
theorem isCall_ok (hC : CxOk C) (hD : DmOk C D) {A : Around} {F : Fm} {sc : Sc} {ρ : Loc} {σ : Store} {s : Shared} {i n c : Str} {ip np cp p : Pos} {e : Addr} {oe : Obj} {cls : Value} {r : Bool} {vc : V} {Q : Value → Shared → Prop} {E : Value → Shared → Prop}
    (hF : FmOk C F D.lvl) (hs : ScOk sc F.env) (I : Inv C F ρ σ s) (hi : nameS D.ge sc ρ i = some (.bif "isinstance")) (hn : nameS D.ge sc ρ n = some (.ref e)) (hc : nameS D.ge sc ρ c = some vc)
    (hr : (vc = .glb "BadWord" ∧ r = true) ∨ (vc = .typ "ValueError" ∧ r = true) ∨ (vc = .glb "BadWeb" ∧ r = false))
    (hoe : s.heap.get? e = some oe) (hcls : C.G.mg "BadWord" = some cls) (hoc : oe.cls = cls) (hod : ∃ vs, oe.data = .fields vs) (hQ : ∀ t, Q (.bool r) { s with toks := t }) :
    wpAny C.M A (eval (.Call (.Name i ip) [.Name n np, .Name c cp] [] p) F.env) Q E s := by
  refine wpAny_Call_NameR (nameS_ok hC hD F sc ρ σ s hF hs I hi fun u ru => ?_)
  simp only [Rel] at ru; subst ru
  refine callWith_builtin rfl ?_
  show wpAny _ _ (evalArgs _ true [(false, eval (.Name n np) F.env), (false, eval (.Name c cp) F.env)] []) _ _ _
  refine Calls.evalArgs_plain (Calls.spliced_cons (nameS_ok hC hD F sc ρ σ s hF hs I hn fun u ru => Calls.spliced_cons (nameS_ok hC hD F sc ρ σ s hF hs I hc fun v rv => Calls.spliced_nil ?_)))
  simp only [Rel] at ru; subst ru
  rcases hr with ⟨rfl, rfl⟩ | ⟨rfl, rfl⟩ | ⟨rfl, rfl⟩
  · simp only [Rel] at rv
    exact hC.exc.is "BadWord" v true (.inl ⟨rfl, rv, rfl⟩) _ s e oe cls _ _ I.keep0 hoe hcls hoc hod hQ
  · simp only [Rel] at rv; subst rv
    exact hC.exc.is "ValueError" _ true (.inr (.inl ⟨rfl, rfl⟩)) _ s e oe cls _ _ I.keep0 hoe hcls hoc hod hQ
  · simp only [Rel] at rv
    exact hC.exc.is "BadWeb" v false (.inr (.inr ⟨rfl, rv, rfl⟩)) _ s e oe cls _ _ I.keep0 hoe hcls hoc hod hQ

theorem not_false_ok {M : Model} {A : Around} {s : Shared} {Q : Value → Shared → Prop} {E : Value → Shared → Prop} (h : Q (.bool true) s) : wpAny M A (unaryOp .Not (.bool false)) Q E s := fun _ _ _ => h

theorem try_ok (hC : CxOk C) (hD : DmOk C D) {call : Expr} {g n i1 n1 c1 i2 n2 c2 i3 n3 c3 : Str} {p0 p1 p2 p3 p4 p5 p6 p7 p8 p9 p10 p11 p12 p13 p14 p15 p16 p17 p18 : Pos} (he : SndE C D call) (F : Fm) (sc : Sc) (ρ : Loc) (σ : Store) (Q : QS) (X : XP) (s : Shared) (E : Value → Shared → Prop) (hF : FmOk C F D.lvl) (hs : ScOk sc F.env) (ho : OwnCells F sc) (hft : FrTop F)
    (h : RefOk D sc ρ g n i1 n1 c1 i2 n2 c2 i3 n3 c3 ∧ notCompB call = true ∧ wpE D call sc ρ σ (fun v σ₁ => notRef v ∧ Q .next ρ σ₁) (fun σ₁ => Q (.ret (.bool true)) ρ σ₁)) (I : Inv C F ρ σ s) (hE : ∀ ρ, EOkS C F ρ X E) (hP : PassesOwn C.M F.A F.env E) :
    wpAny C.M F.A (exec (.Try [.Expr call p0] [.ExceptHandler (some (.Name g p1)) (some n) [.Return (some (.BoolOp .And [.Call (.Name i1 p2) [.Name n1 p3, .Name c1 p4] [] p5, .Call (.Name i2 p6) [.Name n2 p7, .Name c2 p8] [] p9,
      .UnaryOp .Not (.Call (.Name i3 p10) [.Name n3 p11, .Name c3 p12] [] p13) p14] p15)) p16] p17] [] [] p18) F.env) (OkS C F σ s Q) E s := by
  obtain ⟨R, hcomp, h⟩ := h
  obtain ⟨rfl, ⟨rfl, rfl, rfl⟩, ⟨rfl, rfl, rfl⟩, ⟨rfl, rfl, rfl⟩, hscn, hρn, ⟨s1, s2, s3, s4, s5⟩, ⟨g1, g2, g3, g4, g5⟩⟩ := R
  obtain ⟨outer, hfs, hfr⟩ := hft
  have hkl : F.env.kindOf n3 = some .local := by
    rcases hs n3 with q | ⟨q, _⟩
    · rw [← q]; exact hscn
    · rw [hscn] at q; cases q
  refine wpAny_Try_except (wpAny_execs_cons (expr_ok he hF hs hcomp h I (fun e σ' s' hfl hX => ?_) fun s1' σ1 I1 S1 k => wpAny_execs_nil (wpAny_execs_nil ⟨.next, ρ, σ1, I1, S1, rfl, k⟩)))
  obtain ⟨hr, t, cls, hcls, I', B, a0, S, hflw, hB, hup, hS⟩ := hfl
  rw [hfs] at hflw
  refine wpAny_looks_onW (by rw [hF.frames, hfs]) hfr hflw fun h₄ hheld₄ hsm₄ => ?_
  refine wpAny_landsW hheld₄ fun h₅ hfl₅ hsm₅ => ?_
  have hup5 : hr.UpToSlots h₅ := (hup.trans hsm₄).trans hsm₅
  have I5 : Inv C F ρ σ' { s' with heap := h₅ } := I'.land (t' := s'.toks) hfl₅.1 hB hup5 hS
  obtain ⟨cg, hcg, hm⟩ := hC.exc.glue
  obtain ⟨oe, hoe, hoc⟩ := hfl₅.there
  refine wpAny_handleBy_cons (codeAny_handlers_test (nameS_ok hC hD F sc ρ σ' { s' with heap := h₅ } hF hs I5 (v := .glb "GlueError") (by unfold nameS; rw [s1]; exact g1) fun u r => ?_)) (by intro q; cases q)
  simp only [Rel] at r
  rw [hcg] at r; cases r
  refine hm _ { s' with heap := h₅ } e oe cls _ _ I5.keep0 hoe hcls hoc ?_
  refine codeAny_handlers_suite_as ?_
  refine lands_againW hfl₅ fun h₆ hfl₆ hsm₆ => ?_
  have hup6 : hr.UpToSlots h₆ := hup5.trans hsm₆
  have I6 : Inv C F ρ σ' { s' with heap := h₆ } := I'.land (t' := s'.toks) hfl₆.1 hB hup6 hS
  obtain ⟨oe6, ws, hoe6, hoc6, hod6, _⟩ := hfl₆.first
  have heB : B.get? e = none := hfl₆.2.1
  have hefr : e ∉ frs F.fs := fun q => by
    obtain ⟨m, hm⟩ := I6.frNs e q
    obtain ⟨o, es, ep, h1, h2, _⟩ := hm
    have h1 : h₆.get? e = some o := h1
    rw [hoe6] at h1; cases h1
    rw [hod6] at h2; cases h2
  have heS : ∀ o, hr.get? e = some o → e ∈ S := fun o ho => by
    by_cases q : e ∈ S
    · exact q
    · have := hB e o q ho; rw [heB] at this; cases this
  have heAw : ∀ o, hr.get? e = some o → Away C F σ' e := fun o ho => by
    rcases (hS e (heS o ho)).1 with h | h
    · exact absurd h hefr
    · exact h
  have heσ : σ' e = none := by
    cases q : σ' e with
    | none => rfl
    | some c => obtain ⟨o, ho, _⟩ := (I'.sto e c q).1.obj; rw [(heAw o ho).st] at q; cases q
  have heo : e ∉ F.own := fun q => by obtain ⟨o, ho, _⟩ := I'.ownObj e q; exact (heAw o ho).own q
  refine wpAny_mono (storeName_ok hF hs ho (.inl hscn) I6 (v := .ref e) (u := .ref e) (by simp [Rel])) (fun _ s7 o7 => ?_) fun _ _ x => x
  obtain ⟨I7, S7⟩ := o7
  have hoe7 : s7.heap.get? e = some oe6 := S7.exact e oe6 hoe6 heσ heo hefr
  have nm : ∀ {x : Str} {v : V}, sc x = some .globalImplicit → D.ge x = some v → nameS D.ge sc (ρ.set n3 (.ref e)) x = some v := fun h1 h2 => by unfold nameS; rw [h1]; exact h2
  have nn : nameS D.ge sc (ρ.set n3 (.ref e)) n3 = some (.ref e) := by unfold nameS; rw [hscn]; exact if_pos rfl
  have tokI : ∀ t, Inv C F (ρ.set n3 (.ref e)) σ' { s7 with toks := t } := fun t => I7.ext fun _ _ e => e
  refine wpAny_execs_cons (wpAny_Return_some ?_)
  show wpAny _ _ (eval _ F.env >>= fun v => standAt p15 >>= fun _ => holding [v] (truthy v) >>= fun t => _) _ _ s7
  refine wpAny_bind (isCall_ok hC hD hF hs I7 (nm s2 g2) nn (nm s3 g3) (.inl ⟨rfl, rfl⟩) hoe7 hcls hoc6 ⟨ws, hod6⟩ fun t1 => ?_)
  refine wpAny_bind (wpAny_standAt (wpAny_bind (wpAny_holding (wpAny_truthy_bool ?_))))
  show wpAny _ _ (eval _ F.env >>= fun v => standAt p15 >>= fun _ => holding [v] (truthy v) >>= fun t => _) _ _ _
  refine wpAny_bind (isCall_ok hC hD hF hs (tokI t1) (nm s2 g2) nn (nm s4 g4) (.inr (.inl ⟨rfl, rfl⟩)) hoe7 hcls hoc6 ⟨ws, hod6⟩ fun t2 => ?_)
  refine wpAny_bind (wpAny_standAt (wpAny_bind (wpAny_holding (wpAny_truthy_bool ?_))))
  show wpAny _ _ (eval (.UnaryOp .Not _ p14) F.env) _ _ _
  refine wpAny_UnaryOp (isCall_ok hC hD hF hs (tokI t2) (nm s2 g2) nn (nm s5 g5) (.inr (.inr ⟨rfl, rfl⟩)) hoe7 hcls hoc6 ⟨ws, hod6⟩ fun t3 => ?_)
  refine not_false_ok ?_
  show wpAny C.M F.A (do bindName F.env n3 .none; unbindBehindTheSuite F.env n3 p17) (fun _ s₃ => OkS C F σ s Q (.ret (.bool true)) s₃) E { s7 with toks := t3 }
  have I8 := tokI t3
  obtain ⟨m, hm, hl⟩ := I8.loc
  refine wpAny_nameGoes_keeps hkl hm (by rw [hF.kind]; rfl) fun h' v hn' hs' => ?_
  have tk : TK s7.heap h' := by
    obtain ⟨o, ho, hnt⟩ := Ns.notTup hm
    exact TK.sameBut hs' ho fun y => by obtain ⟨_, xs, n, e⟩ := y; exact hnt xs n e
  refine ⟨.ret (.bool true), ρ, σ', (I8.own_step (ρ' := ρ) (t := t3 + 1) I8.lo hs' (Ns.notTup hn') (fun _ => ⟨_, hn'⟩) ⟨_, hn', fun x w e k => ?_⟩ fun x c e => ?_).1, trivial, ⟨_, rfl, by simp [Rel]⟩, hX⟩
  · have hxn : x ≠ n3 := fun q => by rw [q, hρn] at e; cases e
    obtain ⟨u, h1, h2⟩ := hl x w (by unfold Loc.set; rw [if_neg hxn]; exact e) k
    exact ⟨u, by show (if x = n3 then v else m x) = some u; rw [if_neg hxn]; exact h1, h2.mono tk⟩
  · obtain ⟨u, h1, h2⟩ := I8.cel x c e
    refine ⟨u, h1.sameBut hs' (hF.cellApart x c e).1, fun w q k => ?_⟩
    have hxn : x ≠ n3 := fun z => by rw [z, hρn] at q; cases q
    obtain ⟨u', h3, h4⟩ := h2 w (by unfold Loc.set; rw [if_neg hxn]; exact q) k
    exact ⟨u', h3, h4.mono tk⟩

theorem isForm_of {e : Expr} {i n c : Str} (h : isForm e = some (i, n, c)) : ∃ p1 p2 p3 p4, e = .Call (.Name i p1) [.Name n p2, .Name c p3] [] p4 := by
  unfold isForm at h
  split at h
  · split at h
    · split at h
      · split at h
        · split at h
          · rename_i hk
            cases h
            have := List.isEmpty_iff.mp hk
            subst this
            exact ⟨_, _, _, _, rfl⟩
          · cases h
        · cases h
      · cases h
    · cases h
  · cases h
theorem askForm_of {e a b c : Expr} (h : askForm e = some (a, b, c)) : ∃ p1 p2, e = .BoolOp .And [a, b, .UnaryOp .Not c p1] p2 := by
  unfold askForm at h
  split at h
  · split at h
    · split at h
      · cases h; exact ⟨_, _, rfl⟩
      · cases h
    · cases h
  · cases h
theorem suiteForm_of {b : List Stmt} {e : Expr} (h : suiteForm b = some e) : ∃ p, b = [.Return (some e) p] := by
  unfold suiteForm at h
  split at h
  · split at h
    · cases h; exact ⟨_, rfl⟩
    · cases h
  · cases h
theorem clauseForm_of {h : List ExceptHandler} {g n : Str} {b : List Stmt} (e : clauseForm h = some (g, n, b)) : ∃ p1 p2, h = [.ExceptHandler (some (.Name g p1)) (some n) b p2] := by
  unfold clauseForm at e
  split at e
  · split at e
    · cases e; exact ⟨_, _, rfl⟩
    · cases e
  · cases e
theorem bodyForm_of {b : List Stmt} {e : Expr} (h : bodyForm b = some e) : ∃ p, b = [.Expr e p] := by
  unfold bodyForm at h
  split at h
  · split at h
    · cases h; exact ⟨_, rfl⟩
    · cases h
  · cases h
theorem raiseForm_of {e : Option Expr} {n : Str} (h : raiseForm e = some n) : ∃ p1 x k p2 p3, e = some (.Call (.Name n p1) [.Constant (.str x) k p2] [] p3) := by
  unfold raiseForm at h
  split at h
  · split at h
    · split at h
      · split at h
        · split at h
          · rename_i hk
            cases h
            have := List.isEmpty_iff.mp hk
            subst this
            exact ⟨_, _, _, _, _, rfl⟩
          · cases h
        · cases h
      · cases h
    · cases h
  · cases h

theorem sndTry (hC : CxOk C) (hD : DmOk C D) (hx : ∀ e : Expr, SndE C D e) {b : List Stmt} {h : List ExceptHandler} {o f : List Stmt} {p : Pos} : SndS C D (.Try b h o f p) := fun F sc ρ σ Q X s E hF hs ho hft hw I hE hP => by
  rw [wpS_Try] at hw; unfold wpTry at hw
  obtain ⟨rfl, rfl, call, g, n, suite, ans, a1, a2, a3, i1, n1, c1, i2, n2, c2, i3, n3, c3, h1, h2, h3, h4, h5, h6, h7, hw⟩ := hw
  obtain ⟨p1, rfl⟩ := bodyForm_of h1
  obtain ⟨p2, p3, rfl⟩ := clauseForm_of h2
  obtain ⟨p4, rfl⟩ := suiteForm_of h3
  obtain ⟨p5, p6, rfl⟩ := askForm_of h4
  obtain ⟨q1, q2, q3, q4, rfl⟩ := isForm_of h5
  obtain ⟨r1, r2, r3, r4, rfl⟩ := isForm_of h6
  obtain ⟨s1, s2, s3, s4, rfl⟩ := isForm_of h7
  exact try_ok hC hD (hx call) F sc ρ σ Q X s E hF hs ho hft hw I hE hP
end
end Mine

set_option linter.unusedVariables false
set_option autoImplicit false
namespace Mine
open PySem PySem.Calls PyProof.Rows PySem.SeqAt PySem.W

section
variable {C : Cx} {D : Dm}

theorem assign_comp (hC : CxOk C) (hD : DmOk C D) : ∀ e : Expr, (∃ sc ρ σ Q X, wpE D e sc ρ σ Q X) → notComp e = true ∨ ∃ elt tgt it ifs scope pc, e = .ListComp elt [⟨tgt, it, ifs, 0⟩] scope pc ∧ SndE C D (headOf it).2 ∧ SndE C D elt ∧ SndIfs C D ifs := by
  rintro e ⟨sc, ρ, σ, Q, X, h⟩
  cases e <;> try (exact .inl rfl)
  case ListComp elt gens scope p =>
    right
    match gens, h with
    | [⟨tgt, it, ifs, a⟩], h =>
      by_cases ha : a = 0
      · subst ha; exact ⟨_, _, _, _, _, _, rfl, (sndE hC hD _).2.2, (sndE hC hD _).1, sndIs hC hD _⟩
      · exact absurd h (comp_async ha)
    | [], h => exact (show False from h).elim
    | _ :: _ :: _, h => exact absurd h comp_more
  case SetComp => exact (show False from h).elim
  case DictComp => exact (show False from h).elim

theorem sndS_never {st : Stmt} (h : ∀ sc ρ σ Q X, ¬ wpS D st sc ρ σ Q X) : SndS C D st := fun F sc ρ σ Q X s E hF hs ho hft hw I hE hP => absurd hw (h _ _ _ _ _)

theorem sndAssigns (hC : CxOk C) (hD : DmOk C D) {ts : List Expr} {e : Expr} {p : Pos} : SndS C D (.Assign ts e p) := fun F sc ρ σ Q X s E hF hs ho hft h I hE hP => by
  have h0 := h
  rw [wpS_Assign] at h; unfold wpAssign at h
  split at h
  · split at h
    · exact sndAssign hC hD (sndE hC hD _).1 (assign_comp hC hD _ ⟨_, _, _, _, _, h⟩) F sc ρ σ Q X s E hF hs ho hft h0 I hE hP
    · exact sndAssignT (sndE hC hD _).1 F sc ρ σ Q X s E hF hs ho hft h0 I hE hP
    · exact h.elim
  · exact h.elim
theorem sndRaises (hC : CxOk C) (hD : DmOk C D) {e c : Option Expr} {p : Pos} : SndS C D (.Raise e c p) := fun F sc ρ σ Q X s E hF hs ho hft h I hE hP => by
  have h0 := h
  rw [wpS_Raise] at h
  obtain ⟨hc, n, hn, _⟩ := h
  cases c with
  | some c => simp at hc
  | none =>
    obtain ⟨p1, x, k, p2, p3, rfl⟩ := raiseForm_of hn
    exact sndRaise hC hD F sc ρ σ Q X s E hF hs ho hft h0 I hE hP

mutual
theorem sndS (hC : CxOk C) (hD : DmOk C D) : ∀ st : Stmt, SndS C D st
  | .If t a b p => sndIfS (sndE hC hD t).2.1 (sndSs hC hD a) (sndSs hC hD b)
  | .While t body o p => sndWhile (sndE hC hD t).2.1 (sndSs hC hD body)
  | .For tgt it body o p => sndFor hC hD (sndE hC hD it).2.2 (sndSs hC hD body)
  | .FunctionDef .. => sndS_never fun _ _ _ _ _ h => (show False from h).elim
  | .AsyncFunctionDef .. => sndS_never fun _ _ _ _ _ h => (show False from h).elim
  | .ClassDef .. => sndS_never fun _ _ _ _ _ h => (show False from h).elim
  | .Return e p => sndReturn fun e' _ => (sndE hC hD e').1
  | .Delete .. => sndS_never fun _ _ _ _ _ h => (show False from h).elim
  | .Assign .. => sndAssigns hC hD
  | .TypeAlias .. => sndS_never fun _ _ _ _ _ h => (show False from h).elim
  | .AugAssign .. => sndS_never fun _ _ _ _ _ h => (show False from h).elim
  | .AnnAssign .. => sndS_never fun _ _ _ _ _ h => (show False from h).elim
  | .AsyncFor .. => sndS_never fun _ _ _ _ _ h => (show False from h).elim
  | .With .. => sndS_never fun _ _ _ _ _ h => (show False from h).elim
  | .AsyncWith .. => sndS_never fun _ _ _ _ _ h => (show False from h).elim
  | .Match .. => sndS_never fun _ _ _ _ _ h => (show False from h).elim
  | .Raise .. => sndRaises hC hD
  | .Try .. => sndTry hC hD fun e => (sndE hC hD e).1
  | .TryStar .. => sndS_never fun _ _ _ _ _ h => (show False from h).elim
  | .Assert .. => sndS_never fun _ _ _ _ _ h => (show False from h).elim
  | .Import .. => sndS_never fun _ _ _ _ _ h => (show False from h).elim
  | .ImportFrom .. => sndS_never fun _ _ _ _ _ h => (show False from h).elim
  | .Global .. => sndS_never fun _ _ _ _ _ h => (show False from h).elim
  | .Nonlocal .. => sndS_never fun _ _ _ _ _ h => (show False from h).elim
  | .Expr e p => sndExpr (sndE hC hD e).1
  | .Pass p => sndPass
  | .Break .. => sndS_never fun _ _ _ _ _ h => (show False from h).elim
  | .Continue .. => sndS_never fun _ _ _ _ _ h => (show False from h).elim
theorem sndSs (hC : CxOk C) (hD : DmOk C D) : ∀ sts : List Stmt, SndSs C D sts
  | [] => sndSs_nil
  | st :: r => sndSs_cons (sndS hC hD st) (sndSs hC hD r)
end
end
end Mine

set_option linter.unusedVariables false
set_option autoImplicit false
set_option maxRecDepth 100000
namespace Mine
open PySem PySem.Calls PyProof.Rows PySem.SeqAt PySem.W Builtin Builtin.ObjectAttr Builtin.Getset_descriptor

section
variable {prog : Program} {w : World} {A : Around} {E : Value → Shared → Prop} {K : Frag} {h : Heap} {g : Array GenState} {d : Drawn} {t : Nat} {os : OsState} {a D : Addr} {o : Obj}

theorem exc_type {M : Model} (hx : h.get? a = some o) (hc : o.cls = .ref D) : Looks M h (typeOf (.ref a)) (.ref D) := by
  intro A' Q' E' s' k q
  unfold typeOf
  refine wpAny_bind (wpAny_loadPart (k _ _ hx) ?_)
  rw [hc]; exact wpAny_pure q

theorem exc_class_get {R : Result → Shared → Prop} {tp : Value} (X : K.In h) (hx : h.get? a = some o) (hc : o.cls = .ref D) (hm : mroIn K D (.type "object") = some true)
    (hr : R (.ok (.ret (.ref D))) ⟨h, g, d, t, os⟩) : codeAny (model prog w) A (.call (.builtin "getset_descriptor.__get__") ⟨[.builtin "object.__class__", .ref a, tp], []⟩) R ⟨h, g, d, t, os⟩ := by
  have L0 := exc_type (M := model prog w) hx hc
  have L1 := looks_mroIn (M := model prog w) X hm
  refine codeAny_call_builtin KF.slot_gs.plain KF.entry_gs (KF.slot_gs.check _ _ _ _ _ _ _ _ KF.type_class (KF.args_gs _ _ _) ?_)
  unfold Builtin.«getset_descriptor.__get__» descrGet
  rw [dga_obj]
  refine wpAny_bind (wpAny_pure ?_)
  unfold descrGetter descrCheckInstance descrNameAndClass isInstance
  simp only [KF.owner_class]
  repeat lk
  refine ⟨Code.quiet_builtin _ (by decide +kernel), codeAny_builtin KF.entry_class ?_⟩
  unfold Builtin.«object.__class__» shownTypeOf
  repeat lk
  exact hr

theorem exc_class_entry {tk : Tok} {Q : Fin → Shared → Prop} (X : K.In h) (hx : h.get? a = some o) (hc : o.cls = .ref D) (hm : mroIn K D (.type "object") = some true)
    (hcl : findIn K (.ref D) (Str.ofString "__class__") = some (some (.builtin "object.__class__"))) (hq : Q (.done (.ret (.ref D))) ⟨h, g, d, t, os⟩) :
    wpAny (model prog w) A (Builtin.«object.__getattribute__» ⟨[.ref a, .str "__class__" tk], []⟩) Q E ⟨h, g, d, t, os⟩ := by
  have L2 := looks_findIn (M := model prog w) X hcl
  have hT5 : (⟨h, g, d, t, os⟩ : Shared).TypeIs (.builtin "object.__class__") "getset_descriptor" := F.typeOf_object_class
  have f5 := F.typeOf_object_class
  have f6 := F.slot_gs_get.lookup
  have f7 := F.slot_gs_set.lookup
  repeat (any_goals (first | assumption | (with_reducible refine wpAny_loadPart_at hx ?_; rw [hc]) | with_reducible refine L2.at ?_ | wp_step))
  refine exc_class_get X hx hc hm ?_
  repeat (any_goals (first | assumption | wp_step))

theorem exc_check {M : Model} {nameV : Value} {Q : Unit → Shared → Prop} (X : K.In h) (hx : h.get? a = some o) (hc : o.cls = .ref D) (hb : mroIn K D (.type "BaseException") = some true) (hq : Q () ⟨h, g, d, t, os⟩) :
    wpAny M A (checkBuiltinCall "BaseException.__getattribute__" ⟨[.ref a, nameV], []⟩) Q E ⟨h, g, d, t, os⟩ := by
  have hk : builtinKind "BaseException.__getattribute__" = some .slot := by decide +kernel
  have hsplit : splitId "BaseException.__getattribute__" = some ("BaseException", "__getattribute__") := by decide +kernel
  have L1 := looks_mroIn (M := M) X hb
  have ha := F.args_bexc_ga (.ref a) nameV
  simp only [checkBuiltinCall, hk, hsplit]
  refine wpAny_bind ?_
  unfold isInstance
  repeat (first | (with_reducible refine wpAny_loadPart_at hx ?_; rw [hc]) | with_reducible refine L1.at ?_ | wp_step)
  exact hq

theorem exc_class_call {tk : Tok} {R : Result → Shared → Prop} (X : K.In h) (hx : h.get? a = some o) (hc : o.cls = .ref D) (hb : mroIn K D (.type "BaseException") = some true) (hm : mroIn K D (.type "object") = some true)
    (hcl : findIn K (.ref D) (Str.ofString "__class__") = some (some (.builtin "object.__class__"))) (hq : R (.ok (.ret (.ref D))) ⟨h, g, d, t, os⟩) :
    codeAny (model prog w) A (.call (.builtin "BaseException.__getattribute__") ⟨[.ref a, .str "__class__" tk], []⟩) R ⟨h, g, d, t, os⟩ :=
  codeAny_call_builtin F.attrBase_ValueError.ga.plain F.entry_bexc_ga (exc_check X hx hc hb (exc_class_entry X hx hc hm hcl hq))

theorem exc_class_by {tk : Tok} {fill expr : Bool} {Q : Value → Shared → Prop} (X : K.In h) (hx : h.get? a = some o) (hc : o.cls = .ref D) (hb : mroIn K D (.type "BaseException") = some true) (hm : mroIn K D (.type "object") = some true)
    (hcl : findIn K (.ref D) (Str.ofString "__class__") = some (some (.builtin "object.__class__"))) (hga : findIn K (.ref D) (Str.ofString "__getattribute__") = some (some (.builtin "BaseException.__getattribute__")))
    (hgt : findIn K (.ref D) (Str.ofString "__getattr__") = some none) (hq : Q (.ref D) ⟨h, g, d, t, os⟩) :
    wpAny (model prog w) A (getAttrBy (.ref a) (.str "__class__" tk) fill expr) Q E ⟨h, g, d, t, os⟩ := by
  have f3 := F.attrBase_ValueError.ga.bind (.ref a)
  have hx0 : (expr && onTheHeap (Value.builtin "BaseException.__getattribute__")) = false := by cases expr <;> rfl
  have hx2 : (Value.builtin "BaseException.__getattribute__" == Value.builtin "object.__getattribute__") = false := by decide +kernel
  have hx1 : (onTheHeap (Value.ref D) && Value.builtin "BaseException.__getattribute__" == Value.builtin "object.__getattribute__") = false := by rw [hx2]; rfl
  have L1 := looks_findIn (M := model prog w) X hga
  have L2 := looks_findIn (M := model prog w) X hgt
  repeat (any_goals (first | assumption | (with_reducible refine wpAny_loadPart_at hx ?_; rw [hc]) | with_reducible refine L1.at ?_ | with_reducible refine L2.at ?_ | wp_step))
  refine exc_class_call X hx hc hb hm hcl ?_
  repeat (any_goals (first | assumption | wp_step))

theorem exc_class_attr {Q : Option Value → Shared → Prop} (X : K.In h) (hx : h.get? a = some o) (hc : o.cls = .ref D) (hb : mroIn K D (.type "BaseException") = some true) (hm : mroIn K D (.type "object") = some true)
    (hcl : findIn K (.ref D) (Str.ofString "__class__") = some (some (.builtin "object.__class__"))) (hga : findIn K (.ref D) (Str.ofString "__getattribute__") = some (some (.builtin "BaseException.__getattribute__")))
    (hgt : findIn K (.ref D) (Str.ofString "__getattr__") = some none) (hq : Q (some (.ref D)) ⟨h, g, d, t + 1, os⟩) :
    wpAny (model prog w) A (getAttr? (.ref a) "__class__") Q E ⟨h, g, d, t, os⟩ := by
  unfold getAttr? getAttrBy?
  repeat (any_goals (first | assumption | with_reducible apply exc_class_by X hx hc hb hm hcl hga hgt | wp_step))

theorem cls_isType {M : Model} {C : Addr} (X : K.In h) (e : (clsIn K C).isSome = true) : Looks M h (isType (.ref C)) true := by
  unfold clsIn at e
  split at e
  · rename_i c' d' cd' sl' ho
    intro A' Q' E' s' k q
    unfold isType loadHead
    exact wpAny_bind (wpAny_loadPart (k _ _ (X _ _ ho)) (wpAny_pure q))
  · cases e

/-- what K must say of a class of the text -/
structure ExcIn (K : Frag) (D : Addr) : Prop where
  cls : (clsIn K D).isSome = true
  base : mroIn K D (.type "BaseException") = some true
  obj : mroIn K D (.type "object") = some true
  clsAt : findIn K (.ref D) (Str.ofString "__class__") = some (some (.builtin "object.__class__"))
  ga : findIn K (.ref D) (Str.ofString "__getattribute__") = some (some (.builtin "BaseException.__getattribute__"))
  gt : findIn K (.ref D) (Str.ofString "__getattr__") = some none

theorem exc_isn_nested {C : Addr} {dep : Int} {tk : Tok} {Q : Fin → Shared → Prop} (X : K.In h) (hx : h.get? a = some o) (hc : o.cls = .ref D) (xd : ExcIn K D) (hne : (Value.ref D == Value.ref C) = false) (hcC : (clsIn K C).isSome = true) (hty : typeIn K (.ref C) = some (.type "type"))
    (hsub : mroIn K D (.ref C) = some false) (hq : Q (.done (.ret (.bool false))) ⟨h, g, d, t + 1, os⟩) :
    wpAny (model prog w) A (Builtin.«isinstance.nested» ⟨[.ref a, .ref C, .int dep tk], []⟩) Q E ⟨h, g, d, t, os⟩ := by
  have L0 := exc_type (M := model prog w) hx hc
  have L1 := looks_typeIn (M := model prog w) X hty
  have LC := cls_isType (M := model prog w) X hcC
  have LD := cls_isType (M := model prog w) X xd.cls
  have LS := looks_mroIn (M := model prog w) X hsub
  have LI : Looks (model prog w) h (isInstance (.ref a) (.ref C)) false := L0.andThen LS
  unfold Builtin.«isinstance.nested»
  refine wpAny_bind (L0.at ?_)
  rw [if_neg (fun q => by rw [hne] at q; exact Bool.noConfusion q)]
  refine wpAny_bind (L1.at ?_)
  rw [if_pos (by decide)]
  k_delta "plainIsInstance"
  refine wpAny_bind (wpAny_bind (LC.at ?_))
  simp only [Bool.not_true, Bool.false_eq_true, if_false]
  refine wpAny_bind (LI.at ?_)
  simp only [Bool.false_eq_true, if_false]
  refine wpAny_bind (exc_class_attr X hx hc xd.base xd.obj xd.clsAt xd.ga xd.gt ?_)
  refine wpAny_bind (LD.at ?_)
  simp only [Bool.not_true, Bool.false_eq_true, if_false]
  refine wpAny_bind (wpAny_rule ?_)
  refine LS.at ?_
  first
    | exact wpAny_pure hq
    | exact wpAny_pure (wpAny_pure hq)
    | exact wpAny_bind (wpAny_pure (wpAny_pure hq))

theorem exc_isn {C : Addr} {s : Shared} {Q : Value → Shared → Prop} (X : K.In s.heap) (hx : s.heap.get? a = some o) (hc : o.cls = .ref D) (xd : ExcIn K D) (hne : (Value.ref D == Value.ref C) = false) (hcC : (clsIn K C).isSome = true) (hty : typeIn K (.ref C) = some (.type "type"))
    (hsub : mroIn K D (.ref C) = some false) (hq : Q (.bool false) { s with toks := s.toks + 1 }) : wpAny (model prog w) A (call (.builtin "isinstance") [.ref a, .ref C]) Q E s :=
  call_isinstance (S := fun _ R s => (K.In s.heap ∧ s.heap.get? a = some o) ∧ R (.ok (.ret (.bool false))) { s with toks := s.toks + 1 })
    (fun _ _ _ _ _ hs => isinstance_outer (exc_isn_nested hs.1.1 hs.1.2 hc xd hne hcC hty hsub hs.2) (by intro q; cases q)) ⟨⟨X, hx⟩, hq⟩

theorem exc_isT_nested {T : String} {dep : Int} {tk : Tok} {Q : Fin → Shared → Prop} (X : K.In h) (hx : h.get? a = some o) (hc : o.cls = .ref D) (hty : typeOf (.type T) = pure (.type "type")) (hsub : mroIn K D (.type T) = some true) (hq : Q (.done (.ret (.bool true))) ⟨h, g, d, t, os⟩) :
    wpAny (model prog w) A (Builtin.«isinstance.nested» ⟨[.ref a, .type T, .int dep tk], []⟩) Q E ⟨h, g, d, t, os⟩ := by
  have L0 := exc_type (M := model prog w) hx hc
  have LS := looks_mroIn (M := model prog w) X hsub
  have LI : Looks (model prog w) h (isInstance (.ref a) (.type T)) true := L0.andThen LS
  unfold Builtin.«isinstance.nested»
  refine wpAny_bind (L0.at ?_)
  rw [if_neg (by intro q; cases beq_iff_eq.mp q)]
  refine wpAny_bind (wpAny_of_eq hty ?_)
  rw [if_pos (by decide)]
  k_delta "plainIsInstance"
  refine wpAny_bind (wpAny_bind (wpAny_of_eq (a := true) rfl ?_))
  simp only [Bool.not_true, Bool.false_eq_true, if_false]
  refine wpAny_bind (LI.at ?_)
  simp only [if_true]
  exact wpAny_pure (wpAny_pure hq)

theorem exc_isT {T : String} {s : Shared} {Q : Value → Shared → Prop} (X : K.In s.heap) (hx : s.heap.get? a = some o) (hc : o.cls = .ref D) (hty : typeOf (.type T) = pure (.type "type")) (hsub : mroIn K D (.type T) = some true) (hq : Q (.bool true) s) :
    wpAny (model prog w) A (call (.builtin "isinstance") [.ref a, .type T]) Q E s :=
  call_isinstance (S := fun _ R s => (K.In s.heap ∧ s.heap.get? a = some o) ∧ R (.ok (.ret (.bool true))) s)
    (fun _ _ _ _ _ hs => isinstance_outer (exc_isT_nested hs.1.1 hs.1.2 hc hty hsub hs.2) (by intro q; cases q)) ⟨⟨X, hx⟩, hq⟩

theorem exc_isC {C : Addr} {s : Shared} {Q : Value → Shared → Prop} (X : K.In s.heap) (hx : s.heap.get? a = some o) (hc : o.cls = .ref C) (hq : Q (.bool true) s) :
    wpAny (model prog w) A (call (.builtin "isinstance") [.ref a, .ref C]) Q E s :=
  isi_call X (t := .ref C) (fun M => exc_type hx hc) (by unfold isIn; simp) (by intro e; cases e) hq

theorem exc_matches {C : Addr} {s : Shared} {Q : Bool → Shared → Prop} {M : Model} (X : K.In s.heap) (hx : s.heap.get? a = some o) (hc : o.cls = .ref D) (hcC : (clsIn K C).isSome = true) (hty : typeIn K (.ref C) = some (.type "type")) (hb : mroIn K C (.type "BaseException") = some true)
    (hsub : mroIn K D (.ref C) = some true) (hq : Q true s) : wpAny M A (excMatches (.ref a) (.ref C)) Q E s := by
  obtain ⟨h, g, d, t, os⟩ := s
  have L0 := exc_type (M := M) hx hc
  have L1 := looks_typeIn (M := M) X hty
  have LC := cls_isType (M := M) X hcC
  have LB := looks_mroIn (M := M) X hb
  have LS := looks_mroIn (M := M) X hsub
  have f := tc_notTuple
  have LT : Looks M h (isInstance (.ref C) (.type "tuple")) false := L1.andThen (Looks.of_pure f)
  unfold excMatches
  refine wpAny_bind (LT.at ?_)
  simp only [Bool.false_eq_true, if_false]
  refine wpAny_bind (wpAny_pure ?_)
  unfold isExcClass
  simp only [List.forIn_cons, List.forIn_nil]
  repeat lk
  exact hq
end

structure ExcFacts (K : Frag) (cb cg cw : Addr) : Prop where
  nb : nsIn K mainGlobals (Str.ofString "BadWord") = some (some (.ref cb))
  ng : nsIn K mainGlobals (Str.ofString "GlueError") = some (some (.ref cg))
  nw : nsIn K mainGlobals (Str.ofString "BadWeb") = some (some (.ref cw))
  xb : ExcIn K cb
  gcls : (clsIn K cg).isSome = true
  gty : typeIn K (.ref cg) = some (.type "type")
  gbase : mroIn K cg (.type "BaseException") = some true
  gsub : mroIn K cb (.ref cg) = some true
  vsub : mroIn K cb (.type "ValueError") = some true
  wne : (Value.ref cb == Value.ref cw) = false
  wcls : (clsIn K cw).isSome = true
  wty : typeIn K (.ref cw) = some (.type "type")
  wsub : mroIn K cb (.ref cw) = some false

theorem excOk_of {C : Cx} {K : Frag} {cb cg cw : Addr} (X : K.In C.s0.heap) (hg : C.s0.heap.Ns mainGlobals C.G.mg) (x : ExcFacts K cb cg cw) {B newId initId : String} {bm : List Value} (FB : ExcBaseFacts B newId initId bm) (O : OwnCls (Str.ofString "BadWord") cb bm newId C.G.mg C.s0.heap)
    (hV : typeOf (.type "ValueError") = pure (.type "type")) : ExcOk C where
  bad := ⟨cb, B, newId, initId, bm, FB, O⟩
  glue := ⟨cg, mg_of X hg x.ng, fun A s e oe c Q E hk he hb hc hq => by
    rw [show C.G.mg "BadWord" = some (.ref cb) from mg_of X hg x.nb] at hb
    cases hb
    exact exc_matches (X.keeps hk) he hc x.gcls x.gty x.gbase x.gsub hq⟩
  is := fun y c r hor A s e oe cbv Q E hk he hb hc hd hq => by
    rw [show C.G.mg "BadWord" = some (.ref cb) from mg_of X hg x.nb] at hb
    cases hb
    rcases hor with ⟨rfl, h1, rfl⟩ | ⟨rfl, rfl⟩ | ⟨rfl, h1, rfl⟩
    · rw [show C.G.mg "BadWord" = some (.ref cb) from mg_of X hg x.nb] at h1
      cases h1
      exact exc_isC (X.keeps hk) he hc (hq s.toks)
    · exact exc_isT (X.keeps hk) he hc hV x.vsub (hq s.toks)
    · rw [show C.G.mg "BadWeb" = some (.ref cw) from mg_of X hg x.nw] at h1
      cases h1
      exact exc_isn (X.keeps hk) he hc x.xb x.wne x.wcls x.wty x.wsub (hq _)
end Mine

set_option linter.unusedVariables false
set_option autoImplicit false
namespace Mine
open PySem PySem.Calls PyProof.Rows PySem.SeqAt PySem.W

section
variable {C : Cx} {D : Dm}

theorem law_core (hC : CxOk C) (hD : DmOk C D) {name : Str} {scope : Scope} {body : List Stmt} {L a : Addr} {cd : Value} {h₁ : Heap} {m : Str → Option Value} {t : Tok} {x : Str} (hlvl : D.lvl ≤ 40)
    (F : Fr C.s0.heap L h₁ m) (hm : m x = some (.ref C.G.scr)) (hx : scope.names.lookup x = some .local) (hst : (C.s0.heap.get? cStatics).isSome = true)
    (hk : scope.kind = .function) (hnc : ∀ p ∈ scope.names, p.2 ≠ .cell ∧ p.2 ≠ .free) (hd1 : scope.names.lookup (Str.ofString "__debug__") = none) (hd2 : scope.names.lookup (Str.ofString "__classdict__") = none)
    (hw : wpSs D body (fun y => scope.names.lookup y) (fun y => if y = x then some .scr else none) (fun _ => none) (retQ fun v _ => v = .bool true) (fun _ => False)) {Q : Flow → Shared → Prop} {E : Value → Shared → Prop}
    (hQ : ∀ h' t', (∀ b o, C.s0.heap.get? b = some o → h'.get? b = some o) → Q (.ret (.bool true)) { C.s0 with heap := h', toks := t' }) :
    wpAny C.M (callerA.deeper (envOf name scope L a cd)) (execs body (envOf name scope L a cd)) Q E { C.s0 with heap := h₁, toks := t } := by
  generalize henv : envOf name scope L a cd = env
  have eloc : env.locals = L := by rw [← henv]; rfl
  have efr : env.frame = some L := by rw [← henv]; rfl
  have ecells : env.cells = [] := by rw [← henv]; rfl
  have escope : env.scope = scope := by rw [← henv]; rfl
  have ekind : ∀ y, env.kindOf y = scope.names.lookup y := fun y => by rw [← escope]; rfl
  have eglob : env.globals = mainGlobals := by rw [← henv]; rfl
  have ebui : env.builtins = builtinsNs := by rw [← henv]; rfl
  have hLn : C.s0.heap.get? L = none := by
    cases q : C.s0.heap.get? L with
    | none => rfl
    | some o => exact absurd (Heap.lt_size q) (Nat.not_lt.mpr F.above)
  let F0 : Fm := { A := callerA.deeper env, fs := [env], env := env, own := [L], he := C.s0.heap, σe := fun _ => none }
  have efrs : frs [env] = [L] := by simp [frs, efr]
  have FO : FmOk C F0 D.lvl :=
    { handled := rfl
      frames := rfl
      room := by
        refine ⟨?_, ?_⟩
        · show 1 + claimMargin + 1 + D.lvl < recursionLimit
          have : 1 + claimMargin + 1 + 40 < recursionLimit := by decide
          omega
        · show 4 + 3 + 10 * D.lvl + 40 < cLine
          unfold cLine; omega
      kind := by show env.scope.kind = _; rw [escope]; exact hk
      globals := eglob
      builtins := ebui
      inter := by show interactive env = false; simp [interactive, escope, hk]
      locOwn := by show env.locals ∈ [L]; rw [eloc]; exact .head _
      cellKind := fun y e => by
        have e : env.kindOf y = some .cell := e
        rw [ekind] at e; exact absurd rfl (hnc _ (lookup_mem e)).1
      freeKind := fun y e => by
        have e : env.kindOf y = some .free := e
        rw [ekind] at e; exact absurd rfl (hnc _ (lookup_mem e)).2
      cellInj := fun y z c e1 _ => by
        have e1 : env.cells.lookup y = some c := e1
        rw [ecells] at e1; cases e1
      cellApart := fun y c e1 => by
        have e1 : env.cells.lookup y = some c := e1
        rw [ecells] at e1; cases e1
      cellsKind := fun y c e1 => by
        have e1 : env.cells.lookup y = some c := e1
        rw [ecells] at e1; cases e1
      noDbg := by show env.kindOf (Str.ofString "__debug__") = none; rw [ekind]; exact hd1
      noCd := by show env.kindOf (Str.ofString "__classdict__") = none; rw [ekind]; exact hd2 }
  have I0 : Inv C F0 (fun y => if y = x then some .scr else none) (fun _ => none) { C.s0 with heap := h₁, toks := t } :=
    { same := ⟨h₁, t, rfl⟩
      keep0 := F.keep
      frames := by
        obtain ⟨o, es, ep, ho, hd, _⟩ := F.ns
        exact ⟨by rw [escope, hk]; decide, ⟨L, o, efr, hLn, ho, fun vs e => by rw [hd] at e; cases e⟩, trivial⟩
      frNs := fun b hb => by
        have hb : b ∈ frs [env] := hb
        rw [efrs] at hb
        rw [List.mem_singleton.mp hb]; exact ⟨m, F.ns⟩
      loc := ⟨m, by show h₁.Ns env.locals m; rw [eloc]; exact F.ns, fun y v e _ => by
        split at e
        · rename_i q; cases e; exact ⟨_, by rw [q]; exact hm, by simp [Rel]⟩
        · cases e⟩
      cel := fun y c e1 => by
        have e1 : env.cells.lookup y = some c := e1
        rw [ecells] at e1; cases e1
      sto := fun a c e => nomatch e
      ownNew := fun b hb => by rw [List.mem_singleton.mp hb]; exact ⟨hLn, hLn⟩
      ownObj := fun b hb => by rw [List.mem_singleton.mp hb]; exact Ns.notTup F.ns
      kept := fun b o e _ _ => F.keep b o e
      ns := fun b _ _ m hm => hm.at' fun o e => F.keep b o e
      new := fun b _ e => nomatch e
      dom := fun b e => by
        cases q : C.s0.heap.get? b with
        | none => have e : (C.s0.heap.get? b).isSome = true := e; rw [q] at e; cases e
        | some o => show (h₁.get? b).isSome = true; rw [F.keep b o q]; rfl
      lo := by show env.locals ∈ [L]; rw [eloc]; exact .head _
      st2 := by
        cases q : C.s0.heap.get? cStatics with
        | none => rw [q] at hst; cases hst
        | some o => show (h₁.get? cStatics).isSome = true; rw [F.keep _ o q]; rfl }
  refine noE_any (wpAny_mono (sndSs hC hD body F0 _ _ _ _ _ _ noE FO (fun y => .inl (ekind y).symm) (fun y e => absurd rfl (hnc _ (lookup_mem e)).1) ⟨[], rfl, by show env.frame = some env.locals; rw [eloc]; exact efr⟩ hw I0 (fun ρ => ⟨fun _ _ _ _ q => q.elim, fun _ _ _ _ q => q.elim⟩) PassesOwn.never) (fun f s' ok => ?_) fun _ _ x => x)
  obtain ⟨fl, ρ', σ', J, _, rf, q⟩ := ok
  cases fl with
  | next => obtain ⟨_, _, q⟩ := q; exact nomatch q
  | ret v =>
    obtain ⟨u, rfl, hu⟩ := rf
    obtain ⟨_, _, q⟩ := q
    have q : v = .bool true := q
    subst q
    simp only [Rel] at hu; subst hu
    obtain ⟨h', t', e⟩ := J.same
    have hk := J.keep0
    rw [e] at hk ⊢
    exact hQ h' t' hk
  | brk => exact q.elim
  | cont => exact q.elim
end
end Mine

set_option linter.unusedVariables false
set_option autoImplicit false
namespace Mine
open PySem PySem.Calls PyProof.Rows PySem.W

def fragAt (h : Heap) (as : List Addr) : Frag := as.filterMap fun a => (h.get? a).map fun o => (a, o)
theorem fragAt_in {h : Heap} : ∀ (as : List Addr), (fragAt h as).In h
  | [], a, o, e => by simp [fragAt] at e
  | b :: as, a, o, e => by
    unfold fragAt at e
    rw [List.filterMap_cons] at e
    cases hb : h.get? b with
    | none => rw [hb] at e; exact fragAt_in as a o e
    | some ob =>
      rw [hb] at e
      simp only [Option.map_some, List.lookup] at e
      split at e
      · rename_i q; cases e; rw [beq_iff_eq.mp q]; exact hb
      · exact fragAt_in as a o e

def glbAt (h : Heap) (x : Str) : List Addr := match nsIn (fragAt h [mainGlobals]) mainGlobals x with
  | some (some (.ref a)) => (match h.get? a with
    | some ⟨_, _, .cls cd, _⟩ => [a, cd.ns]
    | _ => [a])
  | _ => []
def excAddrs (h : Heap) : List Addr := mainGlobals :: (glbAt h (Str.ofString "BadWord") ++ (glbAt h (Str.ofString "GlueError") ++ glbAt h (Str.ofString "BadWeb")))
def isB (o : Option (Option Value)) (n : String) : Bool := match o with
  | some (some (.builtin m)) => m == n
  | _ => false
def isTy (o : Option Value) : Bool := match o with
  | some (.type m) => m == "type"
  | _ => false
def isNo (o : Option (Option Value)) : Bool := match o with
  | some none => true
  | _ => false
def excB (K : Frag) : Bool := match nsIn K mainGlobals (Str.ofString "BadWord"), nsIn K mainGlobals (Str.ofString "GlueError"), nsIn K mainGlobals (Str.ofString "BadWeb") with
  | some (some (.ref cb)), some (some (.ref cg)), some (some (.ref cw)) =>
    (clsIn K cb).isSome && (mroIn K cb (.type "BaseException") == some true) && (mroIn K cb (.type "object") == some true) && isB (findIn K (.ref cb) (Str.ofString "__class__")) "object.__class__" &&
    isB (findIn K (.ref cb) (Str.ofString "__getattribute__")) "BaseException.__getattribute__" && isNo (findIn K (.ref cb) (Str.ofString "__getattr__")) &&
    (clsIn K cg).isSome && isTy (typeIn K (.ref cg)) && (mroIn K cg (.type "BaseException") == some true) && (mroIn K cb (.ref cg) == some true) && (mroIn K cb (.type "ValueError") == some true) &&
    !(Value.ref cb == Value.ref cw) && (clsIn K cw).isSome && isTy (typeIn K (.ref cw)) && (mroIn K cb (.ref cw) == some false)
  | _, _, _ => false
theorem isB_eq {o : Option (Option Value)} {n : String} (h : isB o n = true) : o = some (some (.builtin n)) := by
  unfold isB at h; split at h
  · rw [beq_iff_eq.mp h]
  · cases h
theorem isTy_eq {o : Option Value} (h : isTy o = true) : o = some (.type "type") := by
  unfold isTy at h; split at h
  · rw [beq_iff_eq.mp h]
  · cases h
theorem isNo_eq {o : Option (Option Value)} (h : isNo o = true) : o = some none := by
  unfold isNo at h; split at h
  · rfl
  · cases h
theorem excB_facts {K : Frag} (h : excB K = true) : ∃ cb cg cw, ExcFacts K cb cg cw := by
  unfold excB at h
  split at h
  · rename_i cb cg cw h1 h2 h3
    simp only [Bool.and_eq_true, Bool.not_eq_true', beq_iff_eq] at h
    obtain ⟨⟨⟨⟨⟨⟨⟨⟨⟨⟨⟨⟨⟨⟨a1, a2⟩, a3⟩, a4⟩, a5⟩, a6⟩, a7⟩, a8⟩, a9⟩, a10⟩, a11⟩, a12⟩, a13⟩, a14⟩, a15⟩ := h
    exact ⟨cb, cg, cw, h1, h2, h3, ⟨a1, a2, a3, isB_eq a4, isB_eq a5, isNo_eq a6⟩, a7, isTy_eq a8, a9, a10, a11, a12, a13, isTy_eq a14, a15⟩
  · cases h
def excHook : Hook := ⟨Bool, fun s => excB (fragAt s.heap (excAddrs s.heap)), fun _ => true, fun _ h => ∃ K cb cg cw, Frag.In K h ∧ ExcFacts K cb cg cw,
  fun w s e => let ⟨cb, cg, cw, x⟩ := excB_facts e; ⟨_, cb, cg, cw, fragAt_in _, x⟩,
  fun w h h' ⟨K, cb, cg, cw, i, x⟩ k => ⟨K, cb, cg, cw, i.keeps k, x⟩⟩
end Mine

set_option linter.unusedVariables false
set_option autoImplicit false
namespace Mine
open PySem PySem.Calls PyProof.Rows PySem.W

def isFn (k : ScopeKind) : Bool := match k with | .function => true | _ => false
def isLc (o : Option NameKind) : Bool := match o with | some .local | some .cell => true | _ => false
def isCl (o : Option NameKind) : Bool := match o with | some .cell => true | _ => false
def fnScopeB (s : Scope) (names : List Str) : Bool := isFn s.kind && !s.isCoroutine && !s.isGenerator && (s.names.all fun p => match p.2 with | .free => false | .cell => isCl (s.names.lookup p.1) | _ => true) &&
  (s.names.lookup (Str.ofString "__debug__")).isNone && (s.names.lookup (Str.ofString "__classdict__")).isNone && names.all fun x => isLc (s.names.lookup x)
theorem fnScope_of {s : Scope} {names : List Str} (h : fnScopeB s names = true) : FnScope s names := by
  simp only [fnScopeB, Bool.and_eq_true, Bool.not_eq_true', Option.isNone_iff_eq_none] at h
  obtain ⟨⟨⟨⟨⟨⟨h1, h2⟩, h3⟩, h4⟩, h5⟩, h6⟩, h7⟩ := h
  refine ⟨?_, h2, h3, fun p hp => ?_, h5, h6, fun x hx => ?_⟩
  · unfold isFn at h1; split at h1
    · assumption
    · cases h1
  · have := List.all_eq_true.mp h4 p hp
    revert this
    cases p.2 <;> simp
    unfold isCl; split
    · intro _; assumption
    · simp
  · have := List.all_eq_true.mp h7 x hx
    unfold isLc at this; split at this
    · exact .inl ‹_›
    · exact .inr ‹_›
    · cases this

theorem len1 {α : Type} {l : List α} (h : l.length = 1) : ∃ a, l = [a] := by
  match l, h with
  | [a], _ => exact ⟨a, rfl⟩
theorem len2 {α : Type} {l : List α} (h : l.length = 2) : ∃ a b, l = [a, b] := by
  match l, h with
  | [a, b], _ => exact ⟨a, b, rfl⟩
theorem len3 {α : Type} {l : List α} (h : l.length = 3) : ∃ a b c, l = [a, b, c] := by
  match l, h with
  | [a, b, c], _ => exact ⟨a, b, c, rfl⟩

/-- the defs of a text, by the places of its statements -/
def recAtP (p : Program) (k : Nat) : Option DefRec := match p.main.body[k]? with
  | some (.FunctionDef n a b _ _ _ sc _ _ pos) => some ⟨n, a, b, sc, pos⟩
  | _ => none
def noRec : DefRec := ⟨Str.ofString "", ⟨[], [], none, [], [], none, []⟩, [], ⟨.function, [], false, false, []⟩, ⟨0, 0, 0, 0⟩⟩
def recD (p : Program) (k : Nat) : DefRec := (recAtP p k).getD noRec

/-- one def of the text, from its body -/
theorem mkFn {C : Cx} {D : Dm} {p q : Program} {N : Nat} {loose : List Str} {mean : ExcName → Option Value} (hC : CxOk C) (hD : DmOk C D) (T : Top q loose mean C.G.mg C.mb C.s0.heap)
    (hq : recsOf q = (List.range N).filterMap (recAtP p)) {k : Nat} {names : List Str} {f : Str} {t : FnT} (hk : (recAtP p k).isSome = true) (hN : k < N) (hf : (recD p k).name = f) (hs : fnScopeB (recD p k).scope names = true)
    (hb : ∀ (pm cd doc : Value) (vals : List Value), vals.length = names.length → bindArgs (docDef (recD p k).name (recD p k).params (recD p k).body (recD p k).scope pm cd doc) ⟨vals, []⟩ = pure (names.zip vals))
    (B : ∀ args σ Q X, t args σ Q X → args.length = names.length ∧ wpSs D (recD p k).body (fun x => (recD p k).scope.names.lookup x) (bindR (names.zip args) fun _ => none) σ (retQ Q) X) : FnOk C f t (D.lvl + 1) := by
  have hm : recD p k ∈ recsOf q := by
    rw [hq]
    refine List.mem_filterMap.mpr ⟨k, List.mem_range.mpr hN, ?_⟩
    unfold recD
    cases e : recAtP p k with
    | none => rw [e] at hk; cases hk
    | some d => rfl
  obtain ⟨a, o, pm, cd, doc, h1, h2, h3, h4⟩ := T.fn _ hm
  exact fnOk_of_body hC hD (hf ▸ h1) h2 h3 h4 (hb pm cd doc) (fnScope_of hs) (sndSs hC hD _) (Nat.le_refl _) B
end Mine

set_option linter.unusedVariables false
set_option autoImplicit false
namespace Mine
open PySem PySem.Calls PyProof.Rows PySem.W

/-- the name is none of the text's own -/
def freeB (q : Program) (loose : List Str) (x : Str) : Bool := !(startupNames.contains x) && !(loose.contains x) && !(((recsOf q).map (·.name)).contains x) && !(((litsOf q).map (·.1)).contains x) && !(((clssOf q loose).map (·.name)).contains x)
theorem free_of {q : Program} {loose : List Str} {mean : ExcName → Option Value} {mg mb : Str → Option Value} {h : Heap} (T : Top q loose mean mg mb h) {x : Str} (f : freeB q loose x = true) : mg x = none := by
  simp only [freeB, Bool.and_eq_true, Bool.not_eq_true', List.contains_eq_mem, decide_eq_false_iff_not] at f
  obtain ⟨⟨⟨⟨h1, h2⟩, h3⟩, h4⟩, h5⟩ := f
  exact T.free x h1 h2 h3 h4 h5
def bootB (x : Str) (v : V) : Bool := !(x == Str.ofString "__name__") && match bootBuiltins x, v with
  | some (.builtin m), .bif n => m == n
  | some (.type m), .typ n => m == n
  | _, _ => false
theorem boot_of {G : Gl} {x : Str} {v : V} (b : bootB x v = true) : x ≠ Str.ofString "__name__" ∧ ∃ u, bootBuiltins x = some u ∧ ∀ h, Rel G h v u := by
  simp only [bootB, Bool.and_eq_true, Bool.not_eq_true', beq_eq_false_iff_ne] at b
  obtain ⟨h1, h2⟩ := b
  refine ⟨h1, ?_⟩
  revert h2
  split
  · rename_i e; intro h; exact ⟨_, e, fun _ => by rw [beq_iff_eq.mp h]; simp [Rel]⟩
  · rename_i e; intro h; exact ⟨_, e, fun _ => by rw [beq_iff_eq.mp h]; simp [Rel]⟩
  · intro h; cases h

theorem ints_rel {G : Gl} {h : Heap} : ∀ {vs : List Value} {ns : List Int}, IntsAre vs ns → RelL G h (ns.map V.int) vs
  | _, _, .nil => RelL.nil
  | _, _, .cons n t r => RelL.cons (by simp [Rel]) (ints_rel r)

def cxOf (p : Program) (w : World) (s : Shared) (mg mb : Str → Option Value) (L : Addr) (ns : List Int) (ge : Str → Option V) : Cx := { prog := p, w := w, s0 := s, G := ⟨mg, L, ns⟩, mb := mb, ge := ge }

/-- the globals of a law: written texts, built-ins, defs, the three exceptions -/
def geOf (consts bi : List (Str × V)) (defs : List Str) : List (Str × V) := consts ++ (bi ++ (defs ++ [Str.ofString "GlueError", Str.ofString "BadWord", Str.ofString "BadWeb"]).map fun n => (n, .glb n))

theorem cx_ok {p q : Program} {loose : List Str} {mean : ExcName → Option Value} {mg mb : Str → Option Value} {w : World} {s : Shared} {L : Addr} {vals : List Value} {ns : List Int} {ge : Str → Option V} {consts bi : List (Str × V)} {defs : List Str}
    (T : Top q loose mean mg mb s.heap) (Y : excHook.says w s.heap) (hL : s.heap.IsList L vals.toArray) (hI : IntsAre vals ns) (hlen : ns.length ≤ 63) (hge : ge = fun x => (geOf consts bi defs).lookup x)
    (hc : ∀ e ∈ consts, ∃ x, e.2 = .str x ∧ valOf q e.1 = some (.str x)) (hbi : (bi.all fun e => freeB q loose e.1 && bootB e.1 e.2) = true) (hdef : (defs.all fun n => ((recsOf q).map (·.name)).contains n) = true)
    (hsp : specOf q (Str.ofString "BadWord") = some ("ValueError.__new__", [.type "ValueError", .type "Exception", .type "BaseException", .type "object"])) (hV : typeOf (.type "ValueError") = pure (.type "type")) :
    CxOk (cxOf p w s mg mb L ns ge) := by
  obtain ⟨K, cb, cg, cw, hK, xf⟩ := Y
  obtain ⟨c, O, _⟩ := T.ownAt hsp
  have eb : mg (Str.ofString "BadWord") = some (.ref cb) := mg_of hK T.g xf.nb
  have eg : mg (Str.ofString "GlueError") = some (.ref cg) := mg_of hK T.g xf.ng
  have ew : mg (Str.ofString "BadWeb") = some (.ref cw) := mg_of hK T.g xf.nw
  have ec : c = cb := by have := O.bound; rw [eb] at this; cases this; rfl
  subst ec
  refine { exc := excOk_of (K := K) (cg := cg) (cw := cw) hK T.g xf F.excBase_ValueError O.own hV, g := T.g, b := T.b, nolimit := T.nolimit, scr := ⟨vals.toArray, hL, ints_rel hI⟩, scrLen := hlen, glob := fun x v e => ?_ }
  have e : ge x = some v := e
  rw [hge] at e
  have hm := lookup_mem e
  have gl : ∀ {y : Str} {u : Value}, mg y = some u → ∃ u, mg y = some u ∧ ∀ h, Rel (cxOf p w s mg mb L ns ge).G h (.glb y) u := fun h => ⟨_, h, fun _ => by simpa [Rel, cxOf] using h⟩
  rcases List.mem_append.mp hm with hm | hm
  · obtain ⟨t, e1, e2⟩ := hc _ hm
    obtain ⟨u, hu, hr⟩ := T.const x _ e2
    refine .inl ⟨u, hu, fun h => ?_⟩
    have e1 : v = .str t := e1
    subst e1
    have := hr h
    cases this
    simp [Rel]
  · rcases List.mem_append.mp hm with hm | hm
    · have := List.all_eq_true.mp hbi _ hm
      rw [Bool.and_eq_true] at this
      obtain ⟨h1, u, h2, h3⟩ := boot_of (G := (cxOf p w s mg mb L ns ge).G) this.2
      exact .inr ⟨free_of T this.1, u, (T.builtins x h1).trans h2, h3⟩
    · obtain ⟨n, hn, en⟩ := List.mem_map.mp hm
      cases en
      refine .inl ?_
      rcases List.mem_append.mp hn with hn | hn
      · have := List.all_eq_true.mp hdef _ hn
        rw [List.contains_iff_mem] at this
        obtain ⟨d, hd, e⟩ := List.mem_map.mp this
        obtain ⟨a, o, pm, code, doc, h1, _⟩ := T.fn d hd
        rw [e] at h1
        exact gl h1
      · rcases List.mem_cons.mp hn with rfl | hn
        · exact gl eg
        · rcases List.mem_cons.mp hn with rfl | hn
          · exact gl eb
          · rcases List.mem_cons.mp hn with rfl | hn
            · exact gl ew
            · cases hn

theorem statics_of {q : Program} {loose : List Str} {mean : ExcName → Option Value} {mg mb : Str → Option Value} {h : Heap} (T : Top q loose mean mg mb h) : (h.get? cStatics).isSome = true := by
  obtain ⟨mc, ⟨o, es, ep, ho, _⟩, _⟩ := T.nodigits
  rw [ho]; rfl

def noCellB (l : List (Str × NameKind)) : Bool := l.all fun p => match p.2 with | .cell | .free => false | _ => true
theorem noCell_of {l : List (Str × NameKind)} (h : noCellB l = true) : ∀ p ∈ l, p.2 ≠ .cell ∧ p.2 ≠ .free := fun p hp => by
  have := List.all_eq_true.mp h p hp
  revert this
  cases p.2 <;> simp
/-- a law's end -/
theorem good_end {c : ClaimW} {cl : Str → Option Addr} {mean : ExcName → Option Value} {args : List WData} {s₁ s' : Shared} (hk : ∀ b o, s₁.heap.get? b = some o → s'.heap.get? b = some o) (hg : s'.gens = #[]) (hos : s'.os = s₁.os) (hn : ∀ cls, c.raises args cls = false) (hp : c.post args (.bool true) args = true) :
    GoodW c cl mean args s₁ (.ok (.ret (.bool true))) s' := ⟨.inl ⟨_, _, _, rfl, hn, .bool true, hp, unshared_nil⟩, hk, hos, hg⟩
end Mine

set_option linter.unusedVariables false
set_option autoImplicit false
namespace Mine

/-! free reduction of words over letters -/
def smL (c : Nat) : Bool := decide (97 ≤ c) && decide (c ≤ 122)
def isL (c : Nat) : Bool := smL c || (decide (65 ≤ c) && decide (c ≤ 90))
def inv (c : Nat) : Nat := if smL c then c - 32 else c + 32
def Ls (w : List Nat) : Prop := ∀ c ∈ w, isL c = true

theorem isL_iff {c : Nat} : isL c = true ↔ (97 ≤ c ∧ c ≤ 122) ∨ (65 ≤ c ∧ c ≤ 90) := by simp [isL, smL]
theorem inv_inv {c : Nat} (h : isL c = true) : inv (inv c) = c := by
  rw [isL_iff] at h
  have s1 : smL c = decide (97 ≤ c ∧ c ≤ 122) := by simp [smL]
  unfold inv
  by_cases q : smL c = true
  · rw [if_pos q]
    have q' : 97 ≤ c ∧ c ≤ 122 := by simpa [smL] using q
    have : ¬ smL (c - 32) = true := by simp [smL]; omega
    rw [if_neg this]; omega
  · rw [if_neg q]
    have q' : ¬ (97 ≤ c ∧ c ≤ 122) := by simpa [smL] using q
    have : smL (c + 32) = true := by simp [smL]; omega
    rw [if_pos this]; omega
theorem isL_inv {c : Nat} (h : isL c = true) : isL (inv c) = true := by
  rw [isL_iff] at h ⊢
  unfold inv
  by_cases q : smL c = true
  · rw [if_pos q]
    have q' : 97 ≤ c ∧ c ≤ 122 := by simpa [smL] using q
    omega
  · rw [if_neg q]
    have q' : ¬ (97 ≤ c ∧ c ≤ 122) := by simpa [smL] using q
    omega
theorem inv_eq {a b : Nat} (ha : isL a = true) (hb : isL b = true) : a = inv b ↔ b = inv a := by
  constructor
  · intro e; rw [e, inv_inv hb]
  · intro e; rw [e, inv_inv ha]

def rp (s : List Nat) (c : Nat) : List Nat := match s with
  | [] => [c]
  | x :: t => if x = inv c then t else c :: x :: t
def rr (s w : List Nat) : List Nat := w.foldl rp s
def RS : List Nat → Prop
  | [] => True
  | [_] => True
  | a :: b :: t => b ≠ inv a ∧ RS (b :: t)
def red (w : List Nat) : List Nat := (rr [] w).reverse
def ivr (w : List Nat) : List Nat := (w.map inv).reverse

theorem RS.nil : RS [] := trivial
theorem RS.tail {a : Nat} {t : List Nat} (h : RS (a :: t)) : RS t := by
  cases t with
  | nil => trivial
  | cons b t => exact h.2
theorem RS.rp {s : List Nat} {c : Nat} (h : RS s) : RS (rp s c) := by
  cases s with
  | nil => trivial
  | cons x t =>
    unfold Mine.rp
    simp only
    split
    · exact h.tail
    · exact ⟨‹_›, h⟩
theorem rr_append (s u v : List Nat) : rr s (u ++ v) = rr (rr s u) v := List.foldl_append
theorem rr_cons (s : List Nat) (c : Nat) (w : List Nat) : rr s (c :: w) = rr (rp s c) w := rfl
theorem rr_nil (s : List Nat) : rr s [] = s := rfl
theorem RS.rr {s : List Nat} (h : RS s) : ∀ {w : List Nat}, RS (rr s w)
  | [] => h
  | c :: w => by rw [rr_cons]; exact RS.rr h.rp
theorem Ls.rp {s : List Nat} {c : Nat} (h : Ls s) (hc : isL c = true) : Ls (rp s c) := by
  cases s with
  | nil => intro x hx; rw [show Mine.rp [] c = [c] from rfl] at hx; rw [List.mem_singleton.mp hx]; exact hc
  | cons x t =>
    unfold Mine.rp
    simp only
    split
    · intro y hy; exact h y (.tail _ hy)
    · intro y hy
      rcases List.mem_cons.mp hy with rfl | hy
      · exact hc
      · exact h y hy
theorem Ls.rr {s : List Nat} (h : Ls s) : ∀ {w : List Nat}, Ls w → Ls (rr s w)
  | [], _ => h
  | c :: w, hw => by rw [rr_cons]; exact Ls.rr (h.rp (hw c (.head _))) fun y hy => hw y (.tail _ hy)
theorem Ls.nil : Ls [] := fun _ h => nomatch h
theorem Ls.append {u v : List Nat} (h : Ls u) (k : Ls v) : Ls (u ++ v) := fun x hx => (List.mem_append.mp hx).elim (h x) (k x)
theorem Ls.reverse {u : List Nat} (h : Ls u) : Ls u.reverse := fun x hx => h x (List.mem_reverse.mp hx)
theorem Ls.of_append {u v : List Nat} (h : Ls (u ++ v)) : Ls u ∧ Ls v := ⟨fun x hx => h x (List.mem_append_left _ hx), fun x hx => h x (List.mem_append_right _ hx)⟩
theorem Ls.red {w : List Nat} (h : Ls w) : Ls (red w) := (Ls.nil.rr h).reverse
theorem Ls.ivr {w : List Nat} (h : Ls w) : Ls (ivr w) := fun x hx => by
  unfold Mine.ivr at hx
  obtain ⟨y, hy, rfl⟩ := List.mem_map.mp (List.mem_reverse.mp hx)
  exact isL_inv (h y hy)
theorem Ls.take {w : List Nat} (h : Ls w) (n : Nat) : Ls (w.take n) := fun x hx => h x (List.mem_of_mem_take hx)
theorem Ls.drop {w : List Nat} (h : Ls w) (n : Nat) : Ls (w.drop n) := fun x hx => h x (List.mem_of_mem_drop hx)

theorem cancel {s : List Nat} {c : Nat} (h : RS s) (hc : isL c = true) : rp (rp s c) (inv c) = s := by
  have ii := inv_inv hc
  cases s with
  | nil => show rp [c] (inv c) = []; unfold rp; simp only; rw [if_pos ii.symm]
  | cons x t =>
    by_cases q : x = inv c
    · have e : rp (x :: t) c = t := by unfold rp; simp only; rw [if_pos q]
      rw [e]
      cases t with
      | nil => show [inv c] = [x]; rw [q]
      | cons y t' =>
        have hy : y ≠ inv x := h.1
        unfold rp; simp only
        rw [if_neg (by rw [ii]; rw [q, ii] at hy; exact hy), q]
    · have e : rp (x :: t) c = c :: x :: t := by unfold rp; simp only; rw [if_neg q]
      rw [e]
      unfold rp; simp only
      rw [if_pos ii.symm]

theorem rp_rev {s st : List Nat} {c : Nat} (hs : RS s) (hst : Ls st) (hc : isL c = true) : rr s (rp st c).reverse = rp (rr s st.reverse) c := by
  cases st with
  | nil => rfl
  | cons x t =>
    by_cases q : x = inv c
    · have e : rp (x :: t) c = t := by unfold rp; simp only; rw [if_pos q]
      have hx : isL x = true := hst x (.head _)
      rw [e, List.reverse_cons, rr_append]
      show rr s t.reverse = rp (rp (rr s t.reverse) x) c
      have := cancel (s := rr s t.reverse) (c := x) hs.rr hx
      have e2 : inv x = c := by rw [q, inv_inv hc]
      rw [e2] at this
      exact this.symm
    · have e : rp (x :: t) c = c :: x :: t := by unfold rp; simp only; rw [if_neg q]
      rw [e, List.reverse_cons, rr_append]
      rfl

theorem rr_congr {s : List Nat} (hs : RS s) : ∀ {w st : List Nat}, Ls st → Ls w → rr s (rr st w).reverse = rr (rr s st.reverse) w
  | [], st, _, _ => rfl
  | c :: w, st, hst, hw => by
    have hc := hw c (.head _)
    rw [rr_cons, rr_congr hs (hst.rp hc) (fun y hy => hw y (.tail _ hy)), rp_rev hs hst hc, rr_cons]
theorem rr_red {s w : List Nat} (hs : RS s) (hw : Ls w) : rr s (red w) = rr s w := by
  unfold red
  rw [rr_congr hs Ls.nil hw]
  rfl
theorem red_append {u v : List Nat} (hu : Ls u) (hv : Ls v) : red (red u ++ red v) = red (u ++ v) := by
  unfold red
  rw [rr_append, rr_append]
  have h1 : rr [] (rr [] u).reverse = rr [] u := rr_red (s := []) trivial hu
  have h2 : rr (rr [] u) (rr [] v).reverse = rr (rr [] u) v := rr_red (RS.rr RS.nil) hv
  rw [h1, h2]
theorem red_append_left {u v : List Nat} (hu : Ls u) : red (red u ++ v) = red (u ++ v) := by
  unfold red
  rw [rr_append, rr_append]
  have h1 : rr [] (rr [] u).reverse = rr [] u := rr_red (s := []) trivial hu
  rw [h1]
theorem rr_fix : ∀ {st : List Nat}, RS st → rr [] st.reverse = st
  | [], _ => rfl
  | c :: t, h => by
    rw [List.reverse_cons, rr_append, rr_fix h.tail]
    show rp t c = c :: t
    cases t with
    | nil => rfl
    | cons x t =>
      unfold rp; simp only
      rw [if_neg h.1]
theorem red_fix {st : List Nat} (h : RS st) : red st.reverse = st.reverse := by unfold red; rw [rr_fix h]
theorem red_red (w : List Nat) : red (red w) = red w := by
  show red (rr [] w).reverse = _
  exact red_fix (RS.rr RS.nil)

theorem ivr_append (u v : List Nat) : ivr (u ++ v) = ivr v ++ ivr u := by simp [ivr]
theorem ivr_ivr {w : List Nat} (h : Ls w) : ivr (ivr w) = w := by
  unfold ivr
  rw [List.map_reverse, List.reverse_reverse, List.map_map]
  conv => rhs; rw [← List.map_id w]
  exact List.map_congr_left fun x hx => inv_inv (h x hx)
theorem rr_inverse : ∀ {w X : List Nat}, RS X → Ls w → rr X (w ++ ivr w) = X
  | [], X, _, _ => rfl
  | c :: w, X, hX, hw => by
    have hc := hw c (.head _)
    have e : ivr (c :: w) = ivr w ++ [inv c] := by simp [ivr]
    rw [e, List.cons_append, rr_cons, ← List.append_assoc, rr_append, rr_inverse hX.rp fun y hy => hw y (.tail _ hy)]
    exact cancel hX hc
theorem red_inverse {w : List Nat} (hw : Ls w) : red (w ++ ivr w) = [] := by unfold red; rw [rr_inverse RS.nil hw]; rfl

theorem rr_ivr {X : List Nat} (hX : RS X) : ∀ {w st : List Nat}, Ls st → Ls w → rr X (ivr (rr st w).reverse) = rr X (ivr (st.reverse ++ w))
  | [], st, _, _ => by rw [List.append_nil]; rfl
  | c :: w, st, hst, hw => by
    have hc := hw c (.head _)
    have hw' : Ls w := fun y hy => hw y (.tail _ hy)
    rw [rr_cons, rr_ivr hX (hst.rp hc) hw', ivr_append, rr_append]
    have e0 : ivr (st.reverse ++ c :: w) = ivr w ++ (inv c :: ivr st.reverse) := by
      rw [show st.reverse ++ c :: w = (st.reverse ++ [c]) ++ w by simp, ivr_append, ivr_append]
      simp [ivr]
    rw [e0, rr_append]
    have hY : RS (rr X (ivr w)) := hX.rr
    generalize rr X (ivr w) = Y at hY ⊢
    cases st with
    | nil => rfl
    | cons x t =>
      by_cases q : x = inv c
      · have e : rp (x :: t) c = t := by unfold rp; simp only; rw [if_pos q]
        rw [e, List.reverse_cons, ivr_append]
        have e1 : ivr [x] = [inv x] := rfl
        rw [e1, rr_cons, List.singleton_append, rr_cons, q]
        have := cancel (s := Y) (c := inv c) hY (isL_inv hc)
        rw [this]
      · have e : rp (x :: t) c = c :: x :: t := by unfold rp; simp only; rw [if_neg q]
        rw [e]
        have e2 : ivr (c :: x :: t).reverse = inv c :: ivr (x :: t).reverse := by
          rw [List.reverse_cons, ivr_append]; rfl
        rw [e2]

theorem RS_snoc : ∀ {s : List Nat} {a : Nat}, RS s → (∀ b, s.getLast? = some b → a ≠ inv b) → RS (s ++ [a])
  | [], a, _, _ => trivial
  | [b], a, _, h => ⟨h b rfl, trivial⟩
  | b :: c :: t, a, hs, h => ⟨hs.1, RS_snoc (s := c :: t) hs.2 fun x hx => h x (by rw [List.getLast?_cons_cons]; exact hx)⟩
theorem RS_ivr : ∀ {st : List Nat}, RS st → Ls st → RS (st.reverse.map inv)
  | [], _, _ => trivial
  | a :: t, h, hl => by
    rw [List.reverse_cons, List.map_append]
    refine RS_snoc (RS_ivr h.tail fun y hy => hl y (.tail _ hy)) fun b hb => ?_
    cases t with
    | nil => simp at hb
    | cons x t =>
      rw [List.reverse_cons, List.map_append, List.map_cons, List.map_nil, List.getLast?_concat] at hb
      cases hb
      intro e
      rw [inv_inv (hl x (.tail _ (.head _)))] at e
      exact h.1 e.symm
theorem red_ivr {w : List Nat} (hw : Ls w) : red (ivr w) = ivr (red w) := by
  have h1 : rr [] (ivr (red w)) = rr [] (ivr w) := by
    have := rr_ivr (X := []) trivial (st := []) (w := w) Ls.nil hw
    exact this
  have h2 : RS (rr [] w) := RS.rr RS.nil
  have h3 : Ls (rr [] w) := Ls.nil.rr hw
  have h4 : (ivr (red w)).reverse = (rr [] w).reverse.map inv := by unfold ivr red; rw [List.reverse_reverse]
  have h5 : RS ((ivr (red w)).reverse) := by rw [h4]; exact RS_ivr h2 h3
  have h6 := red_fix h5
  rw [List.reverse_reverse] at h6
  rw [← h6]
  unfold red at h1 ⊢
  rw [h1]

/-! taking out a pair -/
theorem red_take {w : List Nat} {k a : Nat} (hw : Ls w) (h1 : w[k]? = some a) (h2 : w[k + 1]? = some (inv a)) : red (w.take k ++ w.drop (k + 2)) = red w := by
  have ha : isL a = true := hw a (List.mem_of_getElem? h1)
  have e : w = w.take k ++ (a :: inv a :: w.drop (k + 2)) := by
    conv => lhs; rw [← List.take_append_drop k w]
    congr 1
    have hk : k < w.length := (List.getElem?_eq_some_iff.mp h1).1
    have hk1 : k + 1 < w.length := (List.getElem?_eq_some_iff.mp h2).1
    rw [List.drop_eq_getElem_cons hk, List.drop_eq_getElem_cons hk1]
    have e1 : w[k] = a := by rw [List.getElem?_eq_getElem hk] at h1; exact Option.some.inj h1
    have e2 : w[k + 1] = inv a := by rw [List.getElem?_eq_getElem hk1] at h2; exact Option.some.inj h2
    rw [e1, e2]
  unfold red
  conv => rhs; rw [e]
  rw [rr_append, rr_append, rr_cons, rr_cons, cancel (RS.rr RS.nil) ha]

def NoAdj (w : List Nat) : Prop := ∀ k a, w[k]? = some a → w[k + 1]? ≠ some (inv a)
theorem rr_noAdj : ∀ {w st : List Nat}, Ls st → Ls w → NoAdj (st.reverse ++ w) → rr st w = w.reverse ++ st
  | [], st, _, _, _ => rfl
  | c :: w, st, hst, hw, h => by
    have hc := hw c (.head _)
    have e : rp st c = c :: st := by
      cases st with
      | nil => rfl
      | cons x t =>
        unfold rp; simp only
        rw [if_neg]
        intro q
        have := h t.length x (by simp) 
        apply this
        have hx : isL x = true := hst x (.head _)
        rw [← (inv_eq hx hc).mp q]
        simp
    rw [rr_cons, e, rr_noAdj (by intro y hy; rcases List.mem_cons.mp hy with rfl | hy; exact hc; exact hst y hy) (fun y hy => hw y (.tail _ hy)) (by
      rw [List.reverse_cons, List.append_assoc]; exact h)]
    simp
theorem red_noAdj {w : List Nat} (hw : Ls w) (h : NoAdj w) : red w = w := by
  unfold red
  rw [rr_noAdj Ls.nil hw (by simpa using h)]
  simp
end Mine

set_option linter.unusedVariables false
set_option autoImplicit false
namespace Mine
open PySem PySem.Calls PyProof.Rows

theorem ofString_beq (a b : String) : (Str.ofString a == Str.ofString b) = decide (a = b) := by
  by_cases h : a = b
  · simp [h]
  · simp [h, ofString_inj]

theorem beq_ne {a b : String} (h : (a == b) = false) : (Str.ofString a == Str.ofString b) = false := by
  rw [ofString_beq]; simpa using h
theorem lookup_hit {α : Type} {a b : String} {k : α} {r : List (Str × α)} (h : (a == b) = true) : List.lookup (Str.ofString a) ((Str.ofString b, k) :: r) = some k := by
  rw [beq_iff_eq.mp h]; simp [List.lookup]
theorem lookup_miss {α : Type} {a b : String} {k : α} {r : List (Str × α)} (h : (a == b) = false) : List.lookup (Str.ofString a) ((Str.ofString b, k) :: r) = List.lookup (Str.ofString a) r := by
  rw [List.lookup, beq_ne h]
theorem set_hit {a b : String} {ρ : Loc} {v : V} (h : (a == b) = true) : (ρ.set (Str.ofString b) v) (Str.ofString a) = some v := if_pos (by rw [beq_iff_eq.mp h])
theorem set_miss {a b : String} {ρ : Loc} {v : V} (h : (a == b) = false) : (ρ.set (Str.ofString b) v) (Str.ofString a) = ρ (Str.ofString a) :=
  if_neg fun e => by rw [ofString_inj] at e; rw [e] at h; simp at h
def kindSel (k : Option NameKind) (a b : Option V) : Option V := match k with
  | some .local | some .cell | some .free => a
  | some .globalImplicit => b
  | _ => none
theorem nameS_sel {ge : Str → Option V} {sc : Sc} {ρ : Loc} {x : Str} : nameS ge sc ρ x = kindSel (sc x) (ρ x) (ge x) := by
  unfold nameS kindSel; cases sc x with
  | none => rfl
  | some k => cases k <;> rfl
theorem nameS_cmp {ge : Str → Option V} {l : List (Str × NameKind)} {ρ : Loc} {x : Str} : nameS ge (fun y => List.lookup y l) ρ x = kindSel (List.lookup x l) (ρ x) (ge x) := nameS_sel
theorem ks_local {a b : Option V} : kindSel (some .local) a b = a := rfl
theorem ks_cell {a b : Option V} : kindSel (some .cell) a b = a := rfl
theorem ks_free {a b : Option V} : kindSel (some .free) a b = a := rfl
theorem ks_glob {a b : Option V} : kindSel (some .globalImplicit) a b = b := rfl
theorem lookup_lit {α : Type} {a b : String} {k : α} {r : List (Str × α)} : List.lookup (Str.ofString a) ((Str.ofString b, k) :: r) = if a = b then some k else List.lookup (Str.ofString a) r := by
  split
  · exact lookup_hit (beq_iff_eq.mpr ‹_›)
  · rename_i h; exact lookup_miss (beq_eq_false_iff_ne.mpr h)
theorem set_lit {a b : String} {ρ : Loc} {v : V} : (ρ.set (Str.ofString b) v) (Str.ofString a) = if a = b then some v else ρ (Str.ofString a) := by
  split
  · exact set_hit (beq_iff_eq.mpr ‹_›)
  · rename_i h; exact set_miss (beq_eq_false_iff_ne.mpr h)
/-- a comprehension's scope, looked at -/
def compB (sc : Sc) (scope : Scope) : Bool := (match scope.kind with | .function => true | _ => false) && (scope.names.all fun p => match p.2 with
    | .cell => false
    | .local => (match scope.names.lookup p.1 with | some .local => true | _ => false)
    | .free => (match scope.names.lookup p.1 with | some .free => true | _ => false) && (match sc p.1 with | some .cell | some .free => true | _ => false)
    | _ => true) && (scope.names.lookup (Str.ofString "__debug__")).isNone && (scope.names.lookup (Str.ofString "__classdict__")).isNone
theorem compOk_of {sc : Sc} {scope : Scope} (h : compB sc scope = true) : compOk sc scope := by
  simp only [compB, Bool.and_eq_true, Option.isNone_iff_eq_none] at h
  obtain ⟨⟨⟨h1, h2⟩, h3⟩, h4⟩ := h
  refine ⟨?_, fun p hp => ?_, h3, h4⟩
  · split at h1
    · assumption
    · cases h1
  · have h5 := List.all_eq_true.mp h2 p hp
    revert h5
    cases p.2 <;> simp
    · cases scope.names.lookup p.1 with
      | none => simp
      | some k => cases k <;> simp
    · cases scope.names.lookup p.1 with
      | none => simp
      | some k =>
        cases sc p.1 with
        | none => simp
        | some j => cases k <;> cases j <;> simp

/-- a text -/
def S (w : List Nat) : V := .str ⟨w.toArray⟩
theorem S_inj {u w : List Nat} : S u = S w ↔ u = w := by simp [S]
theorem strOk_Ls {w : List Nat} (h : Ls w) : PyData.strOk ⟨w.toArray⟩ = true := by
  simp only [PyData.strOk, List.all_toArray, List.all_eq_true, decide_eq_true_eq]
  intro c hc
  have := isL_iff.mp (h c hc); omega
theorem pl_S {w : List Nat} (h : Ls w) : pl 8 (S w) = true := by simpa [pl, S] using strOk_Ls h
theorem eqB_S (u w : List Nat) : eqB (S u) (S w) = decide (u = w) := by
  unfold eqB; by_cases h : u = w <;> simp [S_inj, h]

theorem forL_ind {body : V → Loc → Store → QS → Prop} {ok : Store → Prop} {K : QS} (J : List V → Loc → Store → Prop) (hok : ∀ xs ρ σ, J xs ρ σ → ok σ) (hend : ∀ ρ σ, J [] ρ σ → K .next ρ σ)
    (hstep : ∀ x xs ρ σ (K' : QS), J (x :: xs) ρ σ → (∀ ρ' σ', J xs ρ' σ' → K' .next ρ' σ') → (∀ ρ' σ', J xs ρ' σ' → K' .cont ρ' σ') → (∀ ρ' σ', K .next ρ' σ' → K' .brk ρ' σ') → (∀ v ρ' σ', K (.ret v) ρ' σ' → K' (.ret v) ρ' σ') → body x ρ σ K') :
    ∀ {items : List V} {ρ : Loc} {σ : Store}, J items ρ σ → forL body ok items ρ σ K
  | [], ρ, σ, h => ⟨hok _ _ _ h, hend _ _ h⟩
  | x :: xs, ρ, σ, h => ⟨hok _ _ _ h, hstep x xs ρ σ _ h (fun _ _ k => forL_ind J hok hend hstep k) (fun _ _ k => forL_ind J hok hend hstep k) (fun _ _ k => k) fun _ _ _ k => k⟩

theorem compL_map {α : Type} {one : V → Loc → Store → (Loc → Option V → Store → Prop) → Prop} {ok : Store → Prop} {σ : Store} (J : Loc → Prop) (g f : α → V) (hok : ok σ) :
    ∀ {items : List α} {ρ : Loc} {K : List V → Store → Prop}, J ρ → (∀ x ∈ items, ∀ ρ (k : Loc → Option V → Store → Prop), J ρ → (∀ ρ', J ρ' → k ρ' (some (f x)) σ) → one (g x) ρ σ k) → K (items.map f) σ → compL one ok (items.map g) ρ σ K
  | [], ρ, K, _, _, hK => ⟨hok, hK⟩
  | x :: xs, ρ, K, hJ, h, hK => ⟨hok, h x (.head _) ρ _ hJ fun ρ' hJ' => compL_map J g f hok hJ' (fun y hy => h y (.tail _ hy)) hK⟩
theorem compL_filter {α : Type} {one : V → Loc → Store → (Loc → Option V → Store → Prop) → Prop} {ok : Store → Prop} {σ : Store} (J : Loc → Prop) (g f : α → V) (p : α → Bool) (hok : ok σ) :
    ∀ {items : List α} {ρ : Loc} {K : List V → Store → Prop}, J ρ → (∀ x ∈ items, ∀ ρ (k : Loc → Option V → Store → Prop), J ρ → (∀ ρ', J ρ' → p x = true → k ρ' (some (f x)) σ) → (∀ ρ', J ρ' → p x = false → k ρ' none σ) → one (g x) ρ σ k) → K ((items.filter p).map f) σ → compL one ok (items.map g) ρ σ K
  | [], ρ, K, _, _, hK => ⟨hok, hK⟩
  | x :: xs, ρ, K, hJ, h, hK => ⟨hok, h x (.head _) ρ _ hJ (fun ρ' hJ' hp => compL_filter J g f p hok hJ' (fun y hy => h y (.tail _ hy)) (by simpa [hp] using hK))
      (fun ρ' hJ' hp => compL_filter J g f p hok hJ' (fun y hy => h y (.tail _ hy)) (by simpa [hp] using hK))⟩

theorem allBools_map {α : Type} (f : α → Bool) : ∀ l : List α, allBools (l.map fun x => V.bool (f x)) = some (l.map f)
  | [] => rfl
  | x :: l => by simp [allBools, allBools_map f l]
theorem allStrs_map {α : Type} (f : α → Str) : ∀ l : List α, allStrs (l.map fun x => V.str (f x)) = some (l.map f)
  | [] => rfl
  | x :: l => by simp [allStrs, allStrs_map f l]


section
variable {σ : Store} {Q : QV} {G : Gl} {D : Dm}
theorem unS_not (b : Bool) : unS .Not (.bool b) σ Q = Q (.bool !b) σ := rfl
theorem unS_neg (i : Int) : unS .USub (.int i) σ Q = Q (.int (-i)) σ := rfl
theorem add_int (i j : Int) : binS .Add (.int i) (.int j) σ Q = Q (.int (i + j)) σ := rfl
theorem sub_int (i j : Int) : binS .Sub (.int i) (.int j) σ Q = Q (.int (i - j)) σ := rfl
theorem mul_int (i j : Int) : binS .Mult (.int i) (.int j) σ Q = (IntMulOk i j ∧ Q (.int (i * j)) σ) := rfl
theorem div_int (i j : Int) : binS .FloorDiv (.int i) (.int j) σ Q = (j ≠ 0 ∧ j.natAbs < 1073741824 ∧ Q (.int (i.fdiv j)) σ) := rfl
theorem mod_int (i j : Int) : binS .Mod (.int i) (.int j) σ Q = (j ≠ 0 ∧ Q (.int (i.fmod j)) σ) := rfl
theorem iter_S (w : List Nat) (K : (Store → Prop) → List V → Prop) : iterS D (S w) σ K = K (fun _ => True) (w.map fun c => S [c]) := rfl
theorem rev_S (w : List Nat) (K : (Store → Prop) → List V → Prop) : headS D .reversed (S w) σ K = (w.length < 2 ^ 62 ∧ K (fun _ => True) (w.reverse.map fun c => S [c])) := rfl
theorem nil_S : V.str (Str.ofString "") = S [] := by rw [S]; congr 1
theorem add_S {u w : List Nat} (h : u.length + w.length ≤ sizeLine) (q : Q (S (u ++ w)) σ) : binS .Add (S u) (S w) σ Q := by
  refine ⟨by simpa [Str.length] using h, ?_⟩
  have e : (⟨u.toArray⟩ : Str) ++ ⟨w.toArray⟩ = ⟨(u ++ w).toArray⟩ := by
    show Str.mk _ = _
    congr 1
    simp
  rw [e]; exact q
theorem eq_S {u w : List Nat} {K : Bool → Prop} (hu : Ls u) (hw : Ls w) (q : K (decide (u = w))) : eqS (S u) (S w) σ K :=
  .inl ⟨pl_S hu, pl_S hw, by rw [eqB_S]; exact q⟩
theorem init_S {u : List Nat} (h : u.length ≤ sizeLine) (q : Q (S u.dropLast) σ) : sliceS G (S u) .none (.int (-1)) σ Q := by
  refine ⟨none, some (-1), rfl, rfl, by simpa [Str.length] using h, ?_⟩
  have e : cut u none (some (-1)) = u.dropLast := by
    simp only [cut, loOf, hiOf, List.drop_zero, List.dropLast_eq_take]
    congr 1
    simp; omega
  simpa [S, e] using q
theorem idx_nat {k n : Nat} (h : k < n) : idxS (k : Int) n = some k := by
  have h1 : ¬ ((k : Int) < 0) := by omega
  simp only [idxS, seqIndex?, if_neg h1]
  rw [if_pos (by simp; omega)]; simp
theorem idx_last {n : Nat} (h : 0 < n) : idxS (-1) n = some (n - 1) := by
  have h1 : ((-1 : Int) < 0) := by omega
  simp only [idxS, seqIndex?, if_pos h1]
  rw [if_pos (by simp; omega)]; congr 1; omega
theorem item_list {d : Addr} {vs : List V} {k : Nat} {v : V} (h : σ d = some (.list vs)) (hv : vs[k]? = some v) (hk : vs.length ≤ sizeLine) (q : Q v σ) : itemS G (.ref d) (.int k) σ Q := by
  have hl : k < vs.length := by
    rcases Nat.lt_or_ge k vs.length with h | h
    · exact h
    · rw [List.getElem?_eq_none h] at hv; cases hv
  have : sizeLine = 16777216 := rfl
  simp only [itemS, h]
  exact ⟨k, k, v, rfl, by omega, by omega, idx_nat hl, hv, q⟩
theorem item_S {u : List Nat} {k c : Nat} (hv : u[k]? = some c) (hk : u.length ≤ sizeLine) (q : Q (S [c]) σ) : itemS G (S u) (.int k) σ Q := by
  have hl : k < u.length := by
    rcases Nat.lt_or_ge k u.length with h | h
    · exact h
    · rw [List.getElem?_eq_none h] at hv; cases hv
  have : sizeLine = 16777216 := rfl
  refine ⟨k, k, S [c], rfl, by omega, by omega, idx_nat (by simpa [Str.length] using hl), ?_, q⟩
  simp [charAt, hv, S]
theorem last_S {u : List Nat} {c : Nat} (h : u.length ≤ sizeLine) (hc : u.getLast? = some c) (q : Q (S [c]) σ) : itemS G (S u) (.int (-1)) σ Q := by
  have h0 : 0 < u.length := by cases u with
    | nil => simp at hc
    | cons _ _ => simp
  refine ⟨-1, u.length - 1, S [c], rfl, by omega, by omega, ?_, ?_, q⟩
  · exact idx_last (by simpa [Str.length] using h0)
  · simp only [charAt, List.getElem?_toArray]
    rw [← List.getLast?_eq_getElem?, hc]; rfl

theorem cB {n : String} {vs : List V} {X : XP} : callS D (.bif n) vs σ Q X = callB D n vs σ Q := rfl
theorem cY {n : String} {vs : List V} {X : XP} : callS D (.typ n) vs σ Q X = callY D n vs σ Q := rfl
theorem oB {n : String} : okFn D (.bif n) = True := rfl
theorem oY {n : String} : okFn D (.typ n) = True := rfl
theorem callS_glb {f : Str} {r : Nat} {t : FnT} {vs : List V} {X : XP} (h : D.T f = some (r, t)) (hr : r ≤ D.lvl) : callS D (.glb f) vs σ Q X = t vs σ Q X := by
  apply propext; constructor
  · rintro ⟨r', t', e, _, q⟩; rw [h] at e; cases e; exact q
  · intro q; exact ⟨r, t, h, hr, q⟩
theorem okFn_glb {f : Str} {r : Nat} {t : FnT} (h : D.T f = some (r, t)) (hr : r ≤ D.lvl) : okFn D (.glb f) = True := by
  apply propext; exact ⟨fun _ => trivial, fun _ => ⟨r, t, h, hr⟩⟩
theorem head_plain (v : V) (K : (Store → Prop) → List V → Prop) : headS D .plain v σ K = iterS D v σ K := rfl
theorem head_range (v : V) (K : (Store → Prop) → List V → Prop) : headS D .range v σ K = ∃ n : Int, v = .int n ∧ -(2 ^ 62) ≤ n ∧ n < 2 ^ 62 ∧ K (fun _ => True) ((List.range n.toNat).map fun (i : Nat) => V.int (i : Int)) := rfl
theorem to_S {u : List Nat} {k : Nat} (h : u.length ≤ sizeLine) (hk : k ≤ u.length) (q : Q (S (u.take k)) σ) : sliceS G (S u) .none (.int k) σ Q := by
  refine ⟨none, some k, rfl, rfl, by simpa [Str.length] using h, ?_⟩
  have e : cut u none (some (k : Int)) = u.take k := by
    have h1 : ¬ ((k : Int) < 0) := by omega
    simp only [cut, loOf, hiOf, List.drop_zero, if_neg h1, Int.toNat_natCast]
    congr 1; omega
  simpa [S, e] using q
theorem from_S {u : List Nat} {k : Nat} (h : u.length ≤ sizeLine) (hk : k ≤ u.length) (q : Q (S (u.drop k)) σ) : sliceS G (S u) (.int k) .none σ Q := by
  refine ⟨some k, none, rfl, rfl, by simpa [Str.length] using h, ?_⟩
  have e : cut u (some (k : Int)) none = u.drop k := by
    have h1 : ¬ ((k : Int) < 0) := by omega
    simp only [cut, loOf, hiOf, List.take_length, if_neg h1, Int.toNat_natCast]
    congr 1; omega
  simpa [S, e] using q
theorem join_S {a : Addr} {α : Type} {l : List α} {f : α → Nat} (h : σ a = some (.list (l.map fun x => S [f x]))) (hl : l.length ≤ 2 ^ 20) (q : Q (S (l.map f)) σ) : methS D (S []) "join" [.ref a] σ Q := by
  have e1 : ("join" : Str) ≠ "index" := by simp [ofString_inj]
  have e2 : ("join" : Str) ≠ "lower" := by simp [ofString_inj]
  have e3 : ("join" : Str) ≠ "upper" := by simp [ofString_inj]
  simp only [methS, S, if_neg e1, if_neg e2, if_neg e3, if_true]
  refine ⟨a, _, _, rfl, h, allStrs_map _ _, trivial, ?_, ?_⟩
  · have : ((l.map fun x => (⟨[f x].toArray⟩ : Str)).map (·.length)).sum = l.length := by
      clear h q hl
      induction l with
      | nil => rfl
      | cons x l ih => simp [Str.length] at ih ⊢; omega
    rw [this]; exact hl
  · have : ((l.map fun x => (⟨[f x].toArray⟩ : Str)).flatMap (·.cps.toList)) = l.map f := by
      clear h q hl
      induction l with
      | nil => rfl
      | cons x l ih => simp at ih ⊢; exact ih
    rw [this]; exact q
theorem fm (a : Int) {n : Nat} (h : 0 < n) : ∃ m : Nat, a.fmod n = m ∧ m < n := by
  have h1 := Int.fmod_nonneg_of_pos a (b := (n : Int)) (by omega)
  have h2 := Int.fmod_lt_of_pos a (b := (n : Int)) (by omega)
  exact ⟨(a.fmod n).toNat, by omega, by omega⟩
theorem fd (m : Nat) {n : Nat} (h : 0 < n) : (m : Int).fdiv n = ((m / n : Nat) : Int) := by
  rw [Int.fdiv_eq_ediv_of_nonneg _ (by omega)]; rfl
theorem fmn (m : Nat) {n : Nat} : (m : Int).fmod n = ((m % n : Nat) : Int) := by
  rw [Int.fmod_eq_emod_of_nonneg _ (by omega)]; rfl

theorem len_S {u : List Nat} (h : u.length ≤ 2 ^ 40) (q : Q (.int u.length) σ) : callB D "len" [S u] σ Q := by
  simp only [callB, if_true]
  exact ⟨_, u.length, rfl, by simp [lenS, S, Str.length], h, q⟩
theorem len_list {a : Addr} {vs : List V} (h : σ a = some (.list vs)) (hl : vs.length ≤ 2 ^ 40) (q : Q (.int vs.length) σ) : callB D "len" [.ref a] σ Q := by
  simp only [callB, if_true]
  exact ⟨_, vs.length, rfl, by simp [lenS, h], hl, q⟩
theorem upper_S {u : List Nat} (h : u.length ≤ 2 ^ 20) (q : Q (.str (Txt.upper ⟨u.toArray⟩)) σ) : methS D (S u) "upper" [] σ Q := by
  have e1 : ("upper" : Str) ≠ "index" := by simp [ofString_inj]
  have e2 : ("upper" : Str) ≠ "lower" := by simp [ofString_inj]
  simp only [methS, S, if_neg e1, if_neg e2, if_true]
  exact ⟨trivial, by simpa [Str.length] using h, q⟩

theorem index_S {x : Str} {c j : Nat} (h : x.cps.toList.idxOf? c = some j) (q : Q (.int (j : Nat)) σ) : methS D (.str x) "index" [S [c]] σ Q := by
  simp only [methS, if_true]
  exact ⟨c, j, rfl, h, q⟩
theorem lower_S {u : List Nat} (h : u.length ≤ 2 ^ 20) (q : Q (.str (Txt.lower ⟨u.toArray⟩)) σ) : methS D (S u) "lower" [] σ Q := by
  have e1 : ("lower" : Str) ≠ "index" := by simp [ofString_inj]
  simp only [methS, S, if_neg e1, if_true]
  exact ⟨trivial, by simpa [Str.length] using h, q⟩
theorem item_str {x : Str} {k c : Nat} (hi : idxS (k : Int) x.length = some k) (hc : x.cps[k]? = some c) (hk : k < 2 ^ 62) (q : Q (S [c]) σ) : itemS G (.str x) (.int k) σ Q :=
  ⟨k, k, S [c], rfl, by omega, by omega, hi, by simp [charAt, hc, S], q⟩
theorem meth_str {x m : Str} {i : String} (h : (if m = "index" then some "str.index" else if m = "lower" then some "str.lower" else if m = "upper" then some "str.upper" else if m = "join" then some "str.join" else none) = some i) : (methId σ (.str x) m).isSome = true := by
  show (if m = "index" then some "str.index" else if m = "lower" then some "str.lower" else if m = "upper" then some "str.upper" else if m = "join" then some "str.join" else none).isSome = true
  rw [h]; rfl
theorem in_S {u : List Nat} {x : Str} {K : Bool → Prop} (h : K (inStr ⟨u.toArray⟩ x)) : inS (S u) (.str x) σ K := h
theorem divS {m n : Nat} (h : 0 < n) (h' : n < 1073741824) (q : Q (.int (m / n : Nat)) σ) : binS .FloorDiv (.int m) (.int n) σ Q := by
  rw [div_int, fd m h]; exact ⟨by omega, by simpa using h', q⟩
theorem modS {m n : Nat} (h : 0 < n) (q : Q (.int (m % n : Nat)) σ) : binS .Mod (.int m) (.int n) σ Q := by
  rw [mod_int, fmn]; exact ⟨by omega, q⟩
end


theorem headOf_range {p q : Pos} {e : Expr} : headOf (.Call (.Name (Str.ofString "range") p) [e] [] q) = (.range, e) := by simp [headOf]
theorem headOf_rev {p q : Pos} {e : Expr} : headOf (.Call (.Name (Str.ofString "reversed") p) [e] [] q) = (.reversed, e) := by simp [headOf, ofString_inj]
theorem headOf_name {x : Str} {p : Pos} : headOf (.Name x p) = (.plain, .Name x p) := rfl
theorem tgt_plain {t : Expr} : tgtOk .plain t = True := rfl
theorem tgt_range {t : Expr} : tgtOk .range t = True := rfl
theorem tgt_rev {t : Expr} : tgtOk .reversed t = True := rfl
def bindSel (k : Option NameKind) (x : Str) (v : V) (ρ : Loc) : Option Loc := match k with
  | some .local | some .cell => some (ρ.set x v)
  | _ => none
theorem bind_sel {sc : Sc} {x : Str} {p : Pos} {v : V} {ρ : Loc} : bindS sc (.Name x p) v ρ = bindSel (sc x) x v ρ := by
  unfold bindS bindSel
  cases e : sc x with
  | none => simp [e]
  | some k => cases k <;> simp [e]
theorem bind_cmp {l : List (Str × NameKind)} {x : Str} {p : Pos} {v : V} {ρ : Loc} : bindS (fun y => List.lookup y l) (.Name x p) v ρ = bindSel (List.lookup x l) x v ρ := bind_sel
theorem bs_local {x : Str} {v : V} {ρ : Loc} : bindSel (some .local) x v ρ = some (ρ.set x v) := rfl
theorem bs_cell {x : Str} {v : V} {ρ : Loc} : bindSel (some .cell) x v ρ = some (ρ.set x v) := rfl
theorem isHead_range : isHead (Str.ofString "range") = true := by simp [isHead]
theorem isHead_rev : isHead (Str.ofString "reversed") = true := by simp [isHead]
theorem ok_plain {ge : Str → Option V} {sc : Sc} : headOk ge sc .plain = True := rfl
theorem ok_range {ge : Str → Option V} {sc : Sc} : headOk ge sc .range = (sc "range" = some .globalImplicit ∧ ge "range" = some (.typ "range")) := rfl
theorem ok_rev {ge : Str → Option V} {sc : Sc} : headOk ge sc .reversed = (sc "reversed" = some .globalImplicit ∧ ge "reversed" = some (.typ "reversed")) := rfl

def seqQ (D : Dm) (r : List Stmt) (sc : Sc) (Q : QS) (X : XP) : QS := fun f ρ' σ' => match f with | .next => wpSs D r sc ρ' σ' Q X | f => Q f ρ' σ'
theorem seqQ_ret {D : Dm} {r : List Stmt} {sc : Sc} {Q : QS} {X : XP} {v : V} {ρ : Loc} {σ : Store} : seqQ D r sc Q X (.ret v) ρ σ = Q (.ret v) ρ σ := rfl
theorem seqQ_next {D : Dm} {r : List Stmt} {sc : Sc} {Q : QS} {X : XP} {ρ : Loc} {σ : Store} (h : wpSs D r sc ρ σ Q X) : seqQ D r sc Q X .next ρ σ := h
theorem wp_cons {D : Dm} {st : Stmt} {r : List Stmt} {sc : Sc} {Q : QS} {X : XP} {ρ : Loc} {σ : Store} (h : wpS D st sc ρ σ (seqQ D r sc Q X) X) : wpSs D (st :: r) sc ρ σ Q X := by
  rw [wpSs_cons]; exact h
theorem next_set {D : Dm} {r : List Stmt} {sc : Sc} {Q : QS} {X : XP} {ρ : Loc} {x : Str} {v : V} {σ : Store} (h : ∀ ρ' : Loc, ρ' x = some v → (∀ y, y ≠ x → ρ' y = ρ y) → wpSs D r sc ρ' σ Q X) : seqQ D r sc Q X .next (ρ.set x v) σ :=
  h _ (if_pos rfl) fun y hy => if_neg hy
theorem neL {a b : String} (h : a ≠ b) : Str.ofString a ≠ Str.ofString b := fun e => h (by rwa [ofString_inj] at e)
end Mine

set_option linter.unusedVariables false
set_option autoImplicit false
set_option linter.unusedSimpArgs false
namespace Mine
open PySem PySem.Calls PyProof.Rows

def pw : Program := PySem.Challenge.pw_uf030024_01
def defAt (k : Nat) : Option (Str × List Stmt × Scope) := match PySem.Challenge.pw_uf030024_01.main.body[k]? with
  | some (.FunctionDef n _ b _ _ _ sc _ _ _) => some (n, b, sc)
  | _ => none
theorem defAt_rec {k : Nat} (h : (recAtP pw k).isSome = true) : defAt k = some ((recD pw k).name, (recD pw k).body, (recD pw k).scope) := by
  revert h
  unfold recD recAtP defAt
  show _ → (match pw.main.body[k]? with | some (.FunctionDef n _ b _ _ _ sc _ _ _) => some (n, b, sc) | _ => none) = _
  generalize pw.main.body[k]? = o
  split
  · intro _; rfl
  · intro h; cases h

def smallS : Str := "abcdefghijklmnopqrstuvwxyz"
def greatS : Str := "ABCDEFGHIJKLMNOPQRSTUVWXYZ"
def fit : Nat := 4096

/-- no word -/
def Bad (σ : Store) (a : V) : Prop := (∃ w, a = S w ∧ w.length ≤ fit ∧ ¬ Ls w) ∨ isInst σ a "str" = some false

def t_is_word : FnT := fun args σ Q X => ∃ a, args = [a] ∧ ((∃ w, a = S w ∧ w.length ≤ fit ∧ Q (.bool (w.all isL)) σ) ∨ (isInst σ a "str" = some false ∧ Q (.bool false) σ))
def t_need_word : FnT := fun args σ Q X => ∃ a, args = [a] ∧ ((∃ w, a = S w ∧ w.length ≤ fit ∧ Ls w ∧ Q .none σ) ∨ (Bad σ a ∧ X σ))
def t_letter : FnT := fun args σ Q X => ∃ c, args = [S [c]] ∧ isL c = true ∧ Q (S [inv c]) σ
def t_red : FnT := fun args σ Q X => ∃ w, args = [S w] ∧ w.length ≤ fit ∧ Ls w ∧ Q (S (red w)) σ
def t_ivr (f : List Nat → List Nat) : FnT := fun args σ Q X => ∃ w, args = [S w] ∧ w.length ≤ fit ∧ Ls w ∧ Q (S (f w)) σ
def t_short (f : List Nat → List Nat) : FnT := fun args σ Q X => ∃ a, args = [a] ∧ ((∃ w, a = S w ∧ w.length ≤ fit ∧ Ls w ∧ Q (S (f w)) σ) ∨ (Bad σ a ∧ X σ))
def t_times : FnT := fun args σ Q X => ∃ a b, args = [a, b] ∧ ((∃ u v, a = S u ∧ b = S v ∧ u.length + v.length ≤ fit ∧ Ls u ∧ Ls v ∧ Q (S (red (u ++ v))) σ) ∨ (Bad σ a ∧ X σ) ∨ (∃ u, a = S u ∧ u.length ≤ fit ∧ Ls u ∧ Bad σ b ∧ X σ))
def t_cell (G : Gl) : FnT := fun args σ Q X => ∃ k : Nat, args = [.scr, .int k] ∧ k ≤ 63 ∧ G.ns.length ≤ 63 ∧ Q (.int (G.ns.getD k 0)) σ
def t_mixed : FnT := fun args σ Q X => ∃ (c : Int) (k : Nat), args = [.int c, .int k] ∧ k ≤ fit ∧ ∀ n : Nat, n < 2147483629 → Q (.int n) σ
def t_letters : FnT := fun args σ Q X => ∃ c : Int, args = [.int c] ∧ ∀ ls : List Nat, 1 ≤ ls.length → ls.length ≤ 8 → (∀ x ∈ ls, smL x = true) → ∀ r, σ r = none → Q (.ref r) (σ.set r (.list (ls.map fun c => S [c])))
def t_word : FnT := fun args σ Q X => ∃ (c : Int) (r : Addr) (n : Nat) (ls : List Nat), args = [.int c, .ref r, .int n] ∧ n ≤ 100 ∧ σ r = some (.list (ls.map fun c => S [c])) ∧ 1 ≤ ls.length ∧ ls.length ≤ 8 ∧ (∀ x ∈ ls, smL x = true) ∧ ∀ w, Ls w → w.length = n → Q (S w) σ
def t_taken : FnT := fun args σ Q X => ∃ (w : List Nat) (c : Int), args = [S w, .int c] ∧ w.length ≤ 1000 ∧ Ls w ∧ Q (S (red w)) σ
def t_called : FnT := fun args σ Q X => ∃ (p : Int) (a : V), args = [.int p, a] ∧ Bad σ a ∧ X σ
def t_refused : FnT := fun args σ Q X => ∃ (p : Int) (a : V), args = [.int p, a] ∧ Bad σ a ∧ Q (.bool true) σ
def t_is : FnT := fun args σ Q X => ∃ u w, args = [S u, S w] ∧ Ls u ∧ Ls w ∧ Q (.bool (decide (u = w))) σ

def biTab : List (Str × V) := [(Str.ofString "len", .bif "len"), (Str.ofString "all", .bif "all"), (Str.ofString "isinstance", .bif "isinstance"), (Str.ofString "range", .typ "range"), (Str.ofString "reversed", .typ "reversed"), (Str.ofString "str", .typ "str"), (Str.ofString "ValueError", .typ "ValueError")]
def defNames : List Str := [Str.ofString "is_word", Str.ofString "need_word", Str.ofString "letter_back", Str.ofString "shortened", Str.ofString "turned", Str.ofString "short", Str.ofString "back", Str.ofString "times", Str.ofString "_law_cell", Str.ofString "_law_mixed", Str.ofString "_law_letters", Str.ofString "_law_back", Str.ofString "_law_word", Str.ofString "_law_turned", Str.ofString "_law_taken_out", Str.ofString "_law_called", Str.ofString "_law_refused", Str.ofString "_law_is"]
def consts01 : List (Str × V) := [(Str.ofString "SMALL", .str smallS), (Str.ofString "GREAT", .str greatS)]
def ge01 (x : Str) : Option V := (geOf consts01 biTab defNames).lookup x
def tab01 (G : Gl) : List (Str × Nat × FnT) := [(Str.ofString "is_word", 1, t_is_word), (Str.ofString "need_word", 2, t_need_word), (Str.ofString "letter_back", 1, t_letter), (Str.ofString "shortened", 2, t_red), (Str.ofString "turned", 3, t_ivr fun w => red (ivr w)), (Str.ofString "short", 3, t_short red), (Str.ofString "back", 4, t_short fun w => red (ivr w)), (Str.ofString "times", 3, t_times), (Str.ofString "_law_cell", 1, t_cell G), (Str.ofString "_law_mixed", 1, t_mixed), (Str.ofString "_law_letters", 1, t_letters), (Str.ofString "_law_back", 1, t_letter), (Str.ofString "_law_word", 2, t_word), (Str.ofString "_law_turned", 2, t_ivr ivr), (Str.ofString "_law_taken_out", 2, t_taken), (Str.ofString "_law_called", 5, t_called), (Str.ofString "_law_refused", 6, t_refused), (Str.ofString "_law_is", 1, t_is)]
def T01 (G : Gl) (x : Str) : Option (Nat × FnT) := (tab01 G).lookup x

def D01 (G : Gl) (w : World) (lvl : Nat) : Dm := ⟨G, w, ge01, T01 G, lvl⟩

theorem ge_SMALL : ge01 (Str.ofString "SMALL") = some (.str smallS) := by kernel_rfl
theorem ge_GREAT : ge01 (Str.ofString "GREAT") = some (.str greatS) := by kernel_rfl
theorem ge_len : ge01 (Str.ofString "len") = some (.bif "len") := by kernel_rfl
theorem ge_all : ge01 (Str.ofString "all") = some (.bif "all") := by kernel_rfl
theorem ge_isinstance : ge01 (Str.ofString "isinstance") = some (.bif "isinstance") := by kernel_rfl
theorem ge_range : ge01 (Str.ofString "range") = some (.typ "range") := by kernel_rfl
theorem ge_reversed : ge01 (Str.ofString "reversed") = some (.typ "reversed") := by kernel_rfl
theorem ge_str : ge01 (Str.ofString "str") = some (.typ "str") := by kernel_rfl
theorem ge_ValueError : ge01 (Str.ofString "ValueError") = some (.typ "ValueError") := by kernel_rfl
theorem ge_GlueError : ge01 (Str.ofString "GlueError") = some (.glb "GlueError") := by kernel_rfl
theorem ge_BadWord : ge01 (Str.ofString "BadWord") = some (.glb "BadWord") := by kernel_rfl
theorem ge_BadWeb : ge01 (Str.ofString "BadWeb") = some (.glb "BadWeb") := by kernel_rfl
theorem ge_is_word : ge01 (Str.ofString "is_word") = some (.glb "is_word") := by kernel_rfl
theorem ge_need_word : ge01 (Str.ofString "need_word") = some (.glb "need_word") := by kernel_rfl
theorem ge_letter_back : ge01 (Str.ofString "letter_back") = some (.glb "letter_back") := by kernel_rfl
theorem ge_shortened : ge01 (Str.ofString "shortened") = some (.glb "shortened") := by kernel_rfl
theorem ge_turned : ge01 (Str.ofString "turned") = some (.glb "turned") := by kernel_rfl
theorem ge_short : ge01 (Str.ofString "short") = some (.glb "short") := by kernel_rfl
theorem ge_back : ge01 (Str.ofString "back") = some (.glb "back") := by kernel_rfl
theorem ge_times : ge01 (Str.ofString "times") = some (.glb "times") := by kernel_rfl
theorem ge__law_cell : ge01 (Str.ofString "_law_cell") = some (.glb "_law_cell") := by kernel_rfl
theorem ge__law_mixed : ge01 (Str.ofString "_law_mixed") = some (.glb "_law_mixed") := by kernel_rfl
theorem ge__law_letters : ge01 (Str.ofString "_law_letters") = some (.glb "_law_letters") := by kernel_rfl
theorem ge__law_back : ge01 (Str.ofString "_law_back") = some (.glb "_law_back") := by kernel_rfl
theorem ge__law_word : ge01 (Str.ofString "_law_word") = some (.glb "_law_word") := by kernel_rfl
theorem ge__law_turned : ge01 (Str.ofString "_law_turned") = some (.glb "_law_turned") := by kernel_rfl
theorem ge__law_taken_out : ge01 (Str.ofString "_law_taken_out") = some (.glb "_law_taken_out") := by kernel_rfl
theorem ge__law_called : ge01 (Str.ofString "_law_called") = some (.glb "_law_called") := by kernel_rfl
theorem ge__law_refused : ge01 (Str.ofString "_law_refused") = some (.glb "_law_refused") := by kernel_rfl
theorem ge__law_is : ge01 (Str.ofString "_law_is") = some (.glb "_law_is") := by kernel_rfl
theorem T_is_word {G : Gl} : T01 G (Str.ofString "is_word") = some (1, t_is_word) := by kernel_rfl
theorem T_need_word {G : Gl} : T01 G (Str.ofString "need_word") = some (2, t_need_word) := by kernel_rfl
theorem T_letter_back {G : Gl} : T01 G (Str.ofString "letter_back") = some (1, t_letter) := by kernel_rfl
theorem T_shortened {G : Gl} : T01 G (Str.ofString "shortened") = some (2, t_red) := by kernel_rfl
theorem T_turned {G : Gl} : T01 G (Str.ofString "turned") = some (3, t_ivr fun w => red (ivr w)) := by kernel_rfl
theorem T_short {G : Gl} : T01 G (Str.ofString "short") = some (3, t_short red) := by kernel_rfl
theorem T_back {G : Gl} : T01 G (Str.ofString "back") = some (4, t_short fun w => red (ivr w)) := by kernel_rfl
theorem T_times {G : Gl} : T01 G (Str.ofString "times") = some (3, t_times) := by kernel_rfl
theorem T__law_cell {G : Gl} : T01 G (Str.ofString "_law_cell") = some (1, t_cell G) := by kernel_rfl
theorem T__law_mixed {G : Gl} : T01 G (Str.ofString "_law_mixed") = some (1, t_mixed) := by kernel_rfl
theorem T__law_letters {G : Gl} : T01 G (Str.ofString "_law_letters") = some (1, t_letters) := by kernel_rfl
theorem T__law_back {G : Gl} : T01 G (Str.ofString "_law_back") = some (1, t_letter) := by kernel_rfl
theorem T__law_word {G : Gl} : T01 G (Str.ofString "_law_word") = some (2, t_word) := by kernel_rfl
theorem T__law_turned {G : Gl} : T01 G (Str.ofString "_law_turned") = some (2, t_ivr ivr) := by kernel_rfl
theorem T__law_taken_out {G : Gl} : T01 G (Str.ofString "_law_taken_out") = some (2, t_taken) := by kernel_rfl
theorem T__law_called {G : Gl} : T01 G (Str.ofString "_law_called") = some (5, t_called) := by kernel_rfl
theorem T__law_refused {G : Gl} : T01 G (Str.ofString "_law_refused") = some (6, t_refused) := by kernel_rfl
theorem T__law_is {G : Gl} : T01 G (Str.ofString "_law_is") = some (1, t_is) := by kernel_rfl
theorem D01_G {G : Gl} {w : World} {l : Nat} : (D01 G w l).G = G := rfl
theorem D01_ge {G : Gl} {w : World} {l : Nat} : (D01 G w l).ge = ge01 := rfl
theorem D01_T {G : Gl} {w : World} {l : Nat} : (D01 G w l).T = T01 G := rfl
theorem D01_lvl {G : Gl} {w : World} {l : Nat} : (D01 G w l).lvl = l := rfl

theorem c_is_word {G : Gl} {w : World} {l : Nat} {vs : List V} {σ : Store} {Q : QV} {X : XP} (h : 1 ≤ l) : callS (D01 G w l) (.glb (Str.ofString "is_word")) vs σ Q X = (t_is_word) vs σ Q X := callS_glb (T_is_word (G := G)) h
theorem o_is_word {G : Gl} {w : World} {l : Nat} (h : 1 ≤ l) : okFn (D01 G w l) (.glb (Str.ofString "is_word")) = True := okFn_glb (T_is_word (G := G)) h
theorem c_need_word {G : Gl} {w : World} {l : Nat} {vs : List V} {σ : Store} {Q : QV} {X : XP} (h : 2 ≤ l) : callS (D01 G w l) (.glb (Str.ofString "need_word")) vs σ Q X = (t_need_word) vs σ Q X := callS_glb (T_need_word (G := G)) h
theorem o_need_word {G : Gl} {w : World} {l : Nat} (h : 2 ≤ l) : okFn (D01 G w l) (.glb (Str.ofString "need_word")) = True := okFn_glb (T_need_word (G := G)) h
theorem c_letter_back {G : Gl} {w : World} {l : Nat} {vs : List V} {σ : Store} {Q : QV} {X : XP} (h : 1 ≤ l) : callS (D01 G w l) (.glb (Str.ofString "letter_back")) vs σ Q X = (t_letter) vs σ Q X := callS_glb (T_letter_back (G := G)) h
theorem o_letter_back {G : Gl} {w : World} {l : Nat} (h : 1 ≤ l) : okFn (D01 G w l) (.glb (Str.ofString "letter_back")) = True := okFn_glb (T_letter_back (G := G)) h
theorem c_shortened {G : Gl} {w : World} {l : Nat} {vs : List V} {σ : Store} {Q : QV} {X : XP} (h : 2 ≤ l) : callS (D01 G w l) (.glb (Str.ofString "shortened")) vs σ Q X = (t_red) vs σ Q X := callS_glb (T_shortened (G := G)) h
theorem o_shortened {G : Gl} {w : World} {l : Nat} (h : 2 ≤ l) : okFn (D01 G w l) (.glb (Str.ofString "shortened")) = True := okFn_glb (T_shortened (G := G)) h
theorem c_turned {G : Gl} {w : World} {l : Nat} {vs : List V} {σ : Store} {Q : QV} {X : XP} (h : 3 ≤ l) : callS (D01 G w l) (.glb (Str.ofString "turned")) vs σ Q X = (t_ivr fun w => red (ivr w)) vs σ Q X := callS_glb (T_turned (G := G)) h
theorem o_turned {G : Gl} {w : World} {l : Nat} (h : 3 ≤ l) : okFn (D01 G w l) (.glb (Str.ofString "turned")) = True := okFn_glb (T_turned (G := G)) h
theorem c_short {G : Gl} {w : World} {l : Nat} {vs : List V} {σ : Store} {Q : QV} {X : XP} (h : 3 ≤ l) : callS (D01 G w l) (.glb (Str.ofString "short")) vs σ Q X = (t_short red) vs σ Q X := callS_glb (T_short (G := G)) h
theorem o_short {G : Gl} {w : World} {l : Nat} (h : 3 ≤ l) : okFn (D01 G w l) (.glb (Str.ofString "short")) = True := okFn_glb (T_short (G := G)) h
theorem c_back {G : Gl} {w : World} {l : Nat} {vs : List V} {σ : Store} {Q : QV} {X : XP} (h : 4 ≤ l) : callS (D01 G w l) (.glb (Str.ofString "back")) vs σ Q X = (t_short fun w => red (ivr w)) vs σ Q X := callS_glb (T_back (G := G)) h
theorem o_back {G : Gl} {w : World} {l : Nat} (h : 4 ≤ l) : okFn (D01 G w l) (.glb (Str.ofString "back")) = True := okFn_glb (T_back (G := G)) h
theorem c_times {G : Gl} {w : World} {l : Nat} {vs : List V} {σ : Store} {Q : QV} {X : XP} (h : 3 ≤ l) : callS (D01 G w l) (.glb (Str.ofString "times")) vs σ Q X = (t_times) vs σ Q X := callS_glb (T_times (G := G)) h
theorem o_times {G : Gl} {w : World} {l : Nat} (h : 3 ≤ l) : okFn (D01 G w l) (.glb (Str.ofString "times")) = True := okFn_glb (T_times (G := G)) h
theorem c__law_cell {G : Gl} {w : World} {l : Nat} {vs : List V} {σ : Store} {Q : QV} {X : XP} (h : 1 ≤ l) : callS (D01 G w l) (.glb (Str.ofString "_law_cell")) vs σ Q X = (t_cell G) vs σ Q X := callS_glb (T__law_cell (G := G)) h
theorem o__law_cell {G : Gl} {w : World} {l : Nat} (h : 1 ≤ l) : okFn (D01 G w l) (.glb (Str.ofString "_law_cell")) = True := okFn_glb (T__law_cell (G := G)) h
theorem c__law_mixed {G : Gl} {w : World} {l : Nat} {vs : List V} {σ : Store} {Q : QV} {X : XP} (h : 1 ≤ l) : callS (D01 G w l) (.glb (Str.ofString "_law_mixed")) vs σ Q X = (t_mixed) vs σ Q X := callS_glb (T__law_mixed (G := G)) h
theorem o__law_mixed {G : Gl} {w : World} {l : Nat} (h : 1 ≤ l) : okFn (D01 G w l) (.glb (Str.ofString "_law_mixed")) = True := okFn_glb (T__law_mixed (G := G)) h
theorem c__law_letters {G : Gl} {w : World} {l : Nat} {vs : List V} {σ : Store} {Q : QV} {X : XP} (h : 1 ≤ l) : callS (D01 G w l) (.glb (Str.ofString "_law_letters")) vs σ Q X = (t_letters) vs σ Q X := callS_glb (T__law_letters (G := G)) h
theorem o__law_letters {G : Gl} {w : World} {l : Nat} (h : 1 ≤ l) : okFn (D01 G w l) (.glb (Str.ofString "_law_letters")) = True := okFn_glb (T__law_letters (G := G)) h
theorem c__law_back {G : Gl} {w : World} {l : Nat} {vs : List V} {σ : Store} {Q : QV} {X : XP} (h : 1 ≤ l) : callS (D01 G w l) (.glb (Str.ofString "_law_back")) vs σ Q X = (t_letter) vs σ Q X := callS_glb (T__law_back (G := G)) h
theorem o__law_back {G : Gl} {w : World} {l : Nat} (h : 1 ≤ l) : okFn (D01 G w l) (.glb (Str.ofString "_law_back")) = True := okFn_glb (T__law_back (G := G)) h
theorem c__law_word {G : Gl} {w : World} {l : Nat} {vs : List V} {σ : Store} {Q : QV} {X : XP} (h : 2 ≤ l) : callS (D01 G w l) (.glb (Str.ofString "_law_word")) vs σ Q X = (t_word) vs σ Q X := callS_glb (T__law_word (G := G)) h
theorem o__law_word {G : Gl} {w : World} {l : Nat} (h : 2 ≤ l) : okFn (D01 G w l) (.glb (Str.ofString "_law_word")) = True := okFn_glb (T__law_word (G := G)) h
theorem c__law_turned {G : Gl} {w : World} {l : Nat} {vs : List V} {σ : Store} {Q : QV} {X : XP} (h : 2 ≤ l) : callS (D01 G w l) (.glb (Str.ofString "_law_turned")) vs σ Q X = (t_ivr ivr) vs σ Q X := callS_glb (T__law_turned (G := G)) h
theorem o__law_turned {G : Gl} {w : World} {l : Nat} (h : 2 ≤ l) : okFn (D01 G w l) (.glb (Str.ofString "_law_turned")) = True := okFn_glb (T__law_turned (G := G)) h
theorem c__law_taken_out {G : Gl} {w : World} {l : Nat} {vs : List V} {σ : Store} {Q : QV} {X : XP} (h : 2 ≤ l) : callS (D01 G w l) (.glb (Str.ofString "_law_taken_out")) vs σ Q X = (t_taken) vs σ Q X := callS_glb (T__law_taken_out (G := G)) h
theorem o__law_taken_out {G : Gl} {w : World} {l : Nat} (h : 2 ≤ l) : okFn (D01 G w l) (.glb (Str.ofString "_law_taken_out")) = True := okFn_glb (T__law_taken_out (G := G)) h
theorem c__law_called {G : Gl} {w : World} {l : Nat} {vs : List V} {σ : Store} {Q : QV} {X : XP} (h : 5 ≤ l) : callS (D01 G w l) (.glb (Str.ofString "_law_called")) vs σ Q X = (t_called) vs σ Q X := callS_glb (T__law_called (G := G)) h
theorem o__law_called {G : Gl} {w : World} {l : Nat} (h : 5 ≤ l) : okFn (D01 G w l) (.glb (Str.ofString "_law_called")) = True := okFn_glb (T__law_called (G := G)) h
theorem c__law_refused {G : Gl} {w : World} {l : Nat} {vs : List V} {σ : Store} {Q : QV} {X : XP} (h : 6 ≤ l) : callS (D01 G w l) (.glb (Str.ofString "_law_refused")) vs σ Q X = (t_refused) vs σ Q X := callS_glb (T__law_refused (G := G)) h
theorem o__law_refused {G : Gl} {w : World} {l : Nat} (h : 6 ≤ l) : okFn (D01 G w l) (.glb (Str.ofString "_law_refused")) = True := okFn_glb (T__law_refused (G := G)) h
theorem c__law_is {G : Gl} {w : World} {l : Nat} {vs : List V} {σ : Store} {Q : QV} {X : XP} (h : 1 ≤ l) : callS (D01 G w l) (.glb (Str.ofString "_law_is")) vs σ Q X = (t_is) vs σ Q X := callS_glb (T__law_is (G := G)) h
theorem o__law_is {G : Gl} {w : World} {l : Nat} (h : 1 ≤ l) : okFn (D01 G w l) (.glb (Str.ofString "_law_is")) = True := okFn_glb (T__law_is (G := G)) h
def scAt (k : Nat) : Sc := fun x => (recD pw k).scope.names.lookup x
section
variable (G : Gl) (w : World) (lvl : Nat)
/-- what a body's proof says of a def -/
def Body (k : Nat) (names : List Str) (lvl : Nat) (t : FnT) : Prop :=
  ∀ n b sc, defAt k = some (n, b, sc) → ∀ args σ Q X, t args σ Q X → args.length = names.length ∧ wpSs (D01 G w lvl) b (scAt k) (bindR (names.zip args) fun _ => none) σ (retQ Q) X

theorem smalls : ∀ c, c < 123 → smL c = true → smallS.cps.toList.idxOf? c = some (c - 97) ∧ greatS.cps[c - 97]? = some (inv c) ∧ idxS ((c - 97 : Nat) : Int) greatS.length = some (c - 97) := by decide +kernel
theorem greats : ∀ c, c < 91 → 65 ≤ c → greatS.cps.toList.idxOf? c = some (c - 65) ∧ smallS.cps[c - 65]? = some (inv c) ∧ idxS ((c - 65 : Nat) : Int) smallS.length = some (c - 65) := by decide +kernel
theorem smallS_list : smallS.cps.toList = List.range' 97 26 := by decide +kernel
theorem greatS_list : greatS.cps.toList = List.range' 65 26 := by decide +kernel
theorem in_small (c : Nat) : inStr ⟨[c].toArray⟩ smallS = smL c := by
  have := StrLaws.found_one smallS c
  rw [inStr, this, smallS_list]
  simp only [List.mem_range'_1, smL]
  by_cases h1 : 97 ≤ c <;> by_cases h2 : c ≤ 122 <;> simp [h1, h2] <;> omega
theorem in_great (c : Nat) : inStr ⟨[c].toArray⟩ greatS = (decide (65 ≤ c) && decide (c ≤ 90)) := by
  have := StrLaws.found_one greatS c
  rw [inStr, this, greatS_list]
  simp only [List.mem_range'_1]
  by_cases h1 : 65 ≤ c <;> by_cases h2 : c ≤ 90 <;> simp [h1, h2] <;> omega

end
end Mine

set_option linter.unusedVariables false
set_option autoImplicit false
namespace Mine
open PySem PySem.Calls PyProof.Rows
theorem l7_thing {ge : Str → Option V} {ρ : Loc} : nameS ge (scAt 7) ρ (Str.ofString "thing") = ρ (Str.ofString "thing") := by kernel_rfl
theorem s7_thing {p : Pos} {v : V} {ρ : Loc} : bindS (scAt 7) (.Name (Str.ofString "thing") p) v ρ = some (ρ.set (Str.ofString "thing") v) := by kernel_rfl
theorem g7_isinstance {ρ : Loc} : nameS ge01 (scAt 7) ρ (Str.ofString "isinstance") = some (.bif "isinstance") := by kernel_rfl
theorem g7_str {ρ : Loc} : nameS ge01 (scAt 7) ρ (Str.ofString "str") = some (.typ "str") := by kernel_rfl
theorem g7_all {ρ : Loc} : nameS ge01 (scAt 7) ρ (Str.ofString "all") = some (.bif "all") := by kernel_rfl
theorem l8_thing {ge : Str → Option V} {ρ : Loc} : nameS ge (scAt 8) ρ (Str.ofString "thing") = ρ (Str.ofString "thing") := by kernel_rfl
theorem s8_thing {p : Pos} {v : V} {ρ : Loc} : bindS (scAt 8) (.Name (Str.ofString "thing") p) v ρ = some (ρ.set (Str.ofString "thing") v) := by kernel_rfl
theorem g8_is_word {ρ : Loc} : nameS ge01 (scAt 8) ρ (Str.ofString "is_word") = some (.glb (Str.ofString "is_word")) := by kernel_rfl
theorem g8_BadWord {ρ : Loc} : nameS ge01 (scAt 8) ρ (Str.ofString "BadWord") = some (.glb (Str.ofString "BadWord")) := by kernel_rfl
theorem k8_BadWord : scAt 8 (Str.ofString "BadWord") = some .globalImplicit := by kernel_rfl
theorem l9_letter {ge : Str → Option V} {ρ : Loc} : nameS ge (scAt 9) ρ (Str.ofString "letter") = ρ (Str.ofString "letter") := by kernel_rfl
theorem s9_letter {p : Pos} {v : V} {ρ : Loc} : bindS (scAt 9) (.Name (Str.ofString "letter") p) v ρ = some (ρ.set (Str.ofString "letter") v) := by kernel_rfl
theorem g9_SMALL {ρ : Loc} : nameS ge01 (scAt 9) ρ (Str.ofString "SMALL") = some (.str smallS) := by kernel_rfl
theorem g9_GREAT {ρ : Loc} : nameS ge01 (scAt 9) ρ (Str.ofString "GREAT") = some (.str greatS) := by kernel_rfl
theorem l10_word {ge : Str → Option V} {ρ : Loc} : nameS ge (scAt 10) ρ (Str.ofString "word") = ρ (Str.ofString "word") := by kernel_rfl
theorem s10_word {p : Pos} {v : V} {ρ : Loc} : bindS (scAt 10) (.Name (Str.ofString "word") p) v ρ = some (ρ.set (Str.ofString "word") v) := by kernel_rfl
theorem l10_found {ge : Str → Option V} {ρ : Loc} : nameS ge (scAt 10) ρ (Str.ofString "found") = ρ (Str.ofString "found") := by kernel_rfl
theorem s10_found {p : Pos} {v : V} {ρ : Loc} : bindS (scAt 10) (.Name (Str.ofString "found") p) v ρ = some (ρ.set (Str.ofString "found") v) := by kernel_rfl
theorem l10_letter {ge : Str → Option V} {ρ : Loc} : nameS ge (scAt 10) ρ (Str.ofString "letter") = ρ (Str.ofString "letter") := by kernel_rfl
theorem s10_letter {p : Pos} {v : V} {ρ : Loc} : bindS (scAt 10) (.Name (Str.ofString "letter") p) v ρ = some (ρ.set (Str.ofString "letter") v) := by kernel_rfl
theorem g10_letter_back {ρ : Loc} : nameS ge01 (scAt 10) ρ (Str.ofString "letter_back") = some (.glb (Str.ofString "letter_back")) := by kernel_rfl
theorem l11_word {ge : Str → Option V} {ρ : Loc} : nameS ge (scAt 11) ρ (Str.ofString "word") = ρ (Str.ofString "word") := by kernel_rfl
theorem s11_word {p : Pos} {v : V} {ρ : Loc} : bindS (scAt 11) (.Name (Str.ofString "word") p) v ρ = some (ρ.set (Str.ofString "word") v) := by kernel_rfl
theorem g11_shortened {ρ : Loc} : nameS ge01 (scAt 11) ρ (Str.ofString "shortened") = some (.glb (Str.ofString "shortened")) := by kernel_rfl
theorem g11_reversed {ρ : Loc} : nameS ge01 (scAt 11) ρ (Str.ofString "reversed") = some (.typ "reversed") := by kernel_rfl
theorem k11_reversed : scAt 11 (Str.ofString "reversed") = some .globalImplicit := by kernel_rfl
theorem l12_word {ge : Str → Option V} {ρ : Loc} : nameS ge (scAt 12) ρ (Str.ofString "word") = ρ (Str.ofString "word") := by kernel_rfl
theorem s12_word {p : Pos} {v : V} {ρ : Loc} : bindS (scAt 12) (.Name (Str.ofString "word") p) v ρ = some (ρ.set (Str.ofString "word") v) := by kernel_rfl
theorem g12_need_word {ρ : Loc} : nameS ge01 (scAt 12) ρ (Str.ofString "need_word") = some (.glb (Str.ofString "need_word")) := by kernel_rfl
theorem g12_shortened {ρ : Loc} : nameS ge01 (scAt 12) ρ (Str.ofString "shortened") = some (.glb (Str.ofString "shortened")) := by kernel_rfl
theorem l13_word {ge : Str → Option V} {ρ : Loc} : nameS ge (scAt 13) ρ (Str.ofString "word") = ρ (Str.ofString "word") := by kernel_rfl
theorem s13_word {p : Pos} {v : V} {ρ : Loc} : bindS (scAt 13) (.Name (Str.ofString "word") p) v ρ = some (ρ.set (Str.ofString "word") v) := by kernel_rfl
theorem g13_need_word {ρ : Loc} : nameS ge01 (scAt 13) ρ (Str.ofString "need_word") = some (.glb (Str.ofString "need_word")) := by kernel_rfl
theorem g13_turned {ρ : Loc} : nameS ge01 (scAt 13) ρ (Str.ofString "turned") = some (.glb (Str.ofString "turned")) := by kernel_rfl
theorem l14_one {ge : Str → Option V} {ρ : Loc} : nameS ge (scAt 14) ρ (Str.ofString "one") = ρ (Str.ofString "one") := by kernel_rfl
theorem s14_one {p : Pos} {v : V} {ρ : Loc} : bindS (scAt 14) (.Name (Str.ofString "one") p) v ρ = some (ρ.set (Str.ofString "one") v) := by kernel_rfl
theorem l14_other {ge : Str → Option V} {ρ : Loc} : nameS ge (scAt 14) ρ (Str.ofString "other") = ρ (Str.ofString "other") := by kernel_rfl
theorem s14_other {p : Pos} {v : V} {ρ : Loc} : bindS (scAt 14) (.Name (Str.ofString "other") p) v ρ = some (ρ.set (Str.ofString "other") v) := by kernel_rfl
theorem g14_need_word {ρ : Loc} : nameS ge01 (scAt 14) ρ (Str.ofString "need_word") = some (.glb (Str.ofString "need_word")) := by kernel_rfl
theorem g14_shortened {ρ : Loc} : nameS ge01 (scAt 14) ρ (Str.ofString "shortened") = some (.glb (Str.ofString "shortened")) := by kernel_rfl
theorem l17__law_script {ge : Str → Option V} {ρ : Loc} : nameS ge (scAt 17) ρ (Str.ofString "_law_script") = ρ (Str.ofString "_law_script") := by kernel_rfl
theorem s17__law_script {p : Pos} {v : V} {ρ : Loc} : bindS (scAt 17) (.Name (Str.ofString "_law_script") p) v ρ = some (ρ.set (Str.ofString "_law_script") v) := by kernel_rfl
theorem l17__law_k {ge : Str → Option V} {ρ : Loc} : nameS ge (scAt 17) ρ (Str.ofString "_law_k") = ρ (Str.ofString "_law_k") := by kernel_rfl
theorem s17__law_k {p : Pos} {v : V} {ρ : Loc} : bindS (scAt 17) (.Name (Str.ofString "_law_k") p) v ρ = some (ρ.set (Str.ofString "_law_k") v) := by kernel_rfl
theorem g17_len {ρ : Loc} : nameS ge01 (scAt 17) ρ (Str.ofString "len") = some (.bif "len") := by kernel_rfl
theorem l18__law_cell_here {ge : Str → Option V} {ρ : Loc} : nameS ge (scAt 18) ρ (Str.ofString "_law_cell_here") = ρ (Str.ofString "_law_cell_here") := by kernel_rfl
theorem s18__law_cell_here {p : Pos} {v : V} {ρ : Loc} : bindS (scAt 18) (.Name (Str.ofString "_law_cell_here") p) v ρ = some (ρ.set (Str.ofString "_law_cell_here") v) := by kernel_rfl
theorem l18__law_k {ge : Str → Option V} {ρ : Loc} : nameS ge (scAt 18) ρ (Str.ofString "_law_k") = ρ (Str.ofString "_law_k") := by kernel_rfl
theorem s18__law_k {p : Pos} {v : V} {ρ : Loc} : bindS (scAt 18) (.Name (Str.ofString "_law_k") p) v ρ = some (ρ.set (Str.ofString "_law_k") v) := by kernel_rfl
theorem l18__law_number {ge : Str → Option V} {ρ : Loc} : nameS ge (scAt 18) ρ (Str.ofString "_law_number") = ρ (Str.ofString "_law_number") := by kernel_rfl
theorem s18__law_number {p : Pos} {v : V} {ρ : Loc} : bindS (scAt 18) (.Name (Str.ofString "_law_number") p) v ρ = some (ρ.set (Str.ofString "_law_number") v) := by kernel_rfl
theorem l19__law_cell_here {ge : Str → Option V} {ρ : Loc} : nameS ge (scAt 19) ρ (Str.ofString "_law_cell_here") = ρ (Str.ofString "_law_cell_here") := by kernel_rfl
theorem s19__law_cell_here {p : Pos} {v : V} {ρ : Loc} : bindS (scAt 19) (.Name (Str.ofString "_law_cell_here") p) v ρ = some (ρ.set (Str.ofString "_law_cell_here") v) := by kernel_rfl
theorem l19__law_some {ge : Str → Option V} {ρ : Loc} : nameS ge (scAt 19) ρ (Str.ofString "_law_some") = ρ (Str.ofString "_law_some") := by kernel_rfl
theorem s19__law_some {p : Pos} {v : V} {ρ : Loc} : bindS (scAt 19) (.Name (Str.ofString "_law_some") p) v ρ = some (ρ.set (Str.ofString "_law_some") v) := by kernel_rfl
theorem l19__law_step {ge : Str → Option V} {ρ : Loc} : nameS ge (scAt 19) ρ (Str.ofString "_law_step") = ρ (Str.ofString "_law_step") := by kernel_rfl
theorem s19__law_step {p : Pos} {v : V} {ρ : Loc} : bindS (scAt 19) (.Name (Str.ofString "_law_step") p) v ρ = some (ρ.set (Str.ofString "_law_step") v) := by kernel_rfl
theorem l19__law_many {ge : Str → Option V} {ρ : Loc} : nameS ge (scAt 19) ρ (Str.ofString "_law_many") = ρ (Str.ofString "_law_many") := by kernel_rfl
theorem s19__law_many {p : Pos} {v : V} {ρ : Loc} : bindS (scAt 19) (.Name (Str.ofString "_law_many") p) v ρ = some (ρ.set (Str.ofString "_law_many") v) := by kernel_rfl
theorem g19_range {ρ : Loc} : nameS ge01 (scAt 19) ρ (Str.ofString "range") = some (.typ "range") := by kernel_rfl
theorem k19_range : scAt 19 (Str.ofString "range") = some .globalImplicit := by kernel_rfl
theorem l20__law_letter {ge : Str → Option V} {ρ : Loc} : nameS ge (scAt 20) ρ (Str.ofString "_law_letter") = ρ (Str.ofString "_law_letter") := by kernel_rfl
theorem s20__law_letter {p : Pos} {v : V} {ρ : Loc} : bindS (scAt 20) (.Name (Str.ofString "_law_letter") p) v ρ = some (ρ.set (Str.ofString "_law_letter") v) := by kernel_rfl
theorem l21__law_cell_here {ge : Str → Option V} {ρ : Loc} : nameS ge (scAt 21) ρ (Str.ofString "_law_cell_here") = ρ (Str.ofString "_law_cell_here") := by kernel_rfl
theorem s21__law_cell_here {p : Pos} {v : V} {ρ : Loc} : bindS (scAt 21) (.Name (Str.ofString "_law_cell_here") p) v ρ = some (ρ.set (Str.ofString "_law_cell_here") v) := by kernel_rfl
theorem l21__law_letters_here {ge : Str → Option V} {ρ : Loc} : nameS ge (scAt 21) ρ (Str.ofString "_law_letters_here") = ρ (Str.ofString "_law_letters_here") := by kernel_rfl
theorem s21__law_letters_here {p : Pos} {v : V} {ρ : Loc} : bindS (scAt 21) (.Name (Str.ofString "_law_letters_here") p) v ρ = some (ρ.set (Str.ofString "_law_letters_here") v) := by kernel_rfl
theorem l21__law_size {ge : Str → Option V} {ρ : Loc} : nameS ge (scAt 21) ρ (Str.ofString "_law_size") = ρ (Str.ofString "_law_size") := by kernel_rfl
theorem s21__law_size {p : Pos} {v : V} {ρ : Loc} : bindS (scAt 21) (.Name (Str.ofString "_law_size") p) v ρ = some (ρ.set (Str.ofString "_law_size") v) := by kernel_rfl
theorem l21__law_word_here {ge : Str → Option V} {ρ : Loc} : nameS ge (scAt 21) ρ (Str.ofString "_law_word_here") = ρ (Str.ofString "_law_word_here") := by kernel_rfl
theorem s21__law_word_here {p : Pos} {v : V} {ρ : Loc} : bindS (scAt 21) (.Name (Str.ofString "_law_word_here") p) v ρ = some (ρ.set (Str.ofString "_law_word_here") v) := by kernel_rfl
theorem l21__law_k {ge : Str → Option V} {ρ : Loc} : nameS ge (scAt 21) ρ (Str.ofString "_law_k") = ρ (Str.ofString "_law_k") := by kernel_rfl
theorem s21__law_k {p : Pos} {v : V} {ρ : Loc} : bindS (scAt 21) (.Name (Str.ofString "_law_k") p) v ρ = some (ρ.set (Str.ofString "_law_k") v) := by kernel_rfl
theorem l21__law_number {ge : Str → Option V} {ρ : Loc} : nameS ge (scAt 21) ρ (Str.ofString "_law_number") = ρ (Str.ofString "_law_number") := by kernel_rfl
theorem s21__law_number {p : Pos} {v : V} {ρ : Loc} : bindS (scAt 21) (.Name (Str.ofString "_law_number") p) v ρ = some (ρ.set (Str.ofString "_law_number") v) := by kernel_rfl
theorem l21__law_letter {ge : Str → Option V} {ρ : Loc} : nameS ge (scAt 21) ρ (Str.ofString "_law_letter") = ρ (Str.ofString "_law_letter") := by kernel_rfl
theorem s21__law_letter {p : Pos} {v : V} {ρ : Loc} : bindS (scAt 21) (.Name (Str.ofString "_law_letter") p) v ρ = some (ρ.set (Str.ofString "_law_letter") v) := by kernel_rfl
theorem g21_range {ρ : Loc} : nameS ge01 (scAt 21) ρ (Str.ofString "range") = some (.typ "range") := by kernel_rfl
theorem k21_range : scAt 21 (Str.ofString "range") = some .globalImplicit := by kernel_rfl
theorem g21__law_mixed {ρ : Loc} : nameS ge01 (scAt 21) ρ (Str.ofString "_law_mixed") = some (.glb (Str.ofString "_law_mixed")) := by kernel_rfl
theorem g21_len {ρ : Loc} : nameS ge01 (scAt 21) ρ (Str.ofString "len") = some (.bif "len") := by kernel_rfl
theorem l23__law_word_here {ge : Str → Option V} {ρ : Loc} : nameS ge (scAt 23) ρ (Str.ofString "_law_word_here") = ρ (Str.ofString "_law_word_here") := by kernel_rfl
theorem s23__law_word_here {p : Pos} {v : V} {ρ : Loc} : bindS (scAt 23) (.Name (Str.ofString "_law_word_here") p) v ρ = some (ρ.set (Str.ofString "_law_word_here") v) := by kernel_rfl
theorem g23_reversed {ρ : Loc} : nameS ge01 (scAt 23) ρ (Str.ofString "reversed") = some (.typ "reversed") := by kernel_rfl
theorem k23_reversed : scAt 23 (Str.ofString "reversed") = some .globalImplicit := by kernel_rfl
theorem l24__law_word_here {ge : Str → Option V} {ρ : Loc} : nameS ge (scAt 24) ρ (Str.ofString "_law_word_here") = ρ (Str.ofString "_law_word_here") := by kernel_rfl
theorem s24__law_word_here {p : Pos} {v : V} {ρ : Loc} : bindS (scAt 24) (.Name (Str.ofString "_law_word_here") p) v ρ = some (ρ.set (Str.ofString "_law_word_here") v) := by kernel_rfl
theorem l24__law_cell_here {ge : Str → Option V} {ρ : Loc} : nameS ge (scAt 24) ρ (Str.ofString "_law_cell_here") = ρ (Str.ofString "_law_cell_here") := by kernel_rfl
theorem s24__law_cell_here {p : Pos} {v : V} {ρ : Loc} : bindS (scAt 24) (.Name (Str.ofString "_law_cell_here") p) v ρ = some (ρ.set (Str.ofString "_law_cell_here") v) := by kernel_rfl
theorem l24__law_turn {ge : Str → Option V} {ρ : Loc} : nameS ge (scAt 24) ρ (Str.ofString "_law_turn") = ρ (Str.ofString "_law_turn") := by kernel_rfl
theorem s24__law_turn {p : Pos} {v : V} {ρ : Loc} : bindS (scAt 24) (.Name (Str.ofString "_law_turn") p) v ρ = some (ρ.set (Str.ofString "_law_turn") v) := by kernel_rfl
theorem l24__law_places {ge : Str → Option V} {ρ : Loc} : nameS ge (scAt 24) ρ (Str.ofString "_law_places") = ρ (Str.ofString "_law_places") := by kernel_rfl
theorem s24__law_places {p : Pos} {v : V} {ρ : Loc} : bindS (scAt 24) (.Name (Str.ofString "_law_places") p) v ρ = some (ρ.set (Str.ofString "_law_places") v) := by kernel_rfl
theorem l24__law_at {ge : Str → Option V} {ρ : Loc} : nameS ge (scAt 24) ρ (Str.ofString "_law_at") = ρ (Str.ofString "_law_at") := by kernel_rfl
theorem s24__law_at {p : Pos} {v : V} {ρ : Loc} : bindS (scAt 24) (.Name (Str.ofString "_law_at") p) v ρ = some (ρ.set (Str.ofString "_law_at") v) := by kernel_rfl
theorem g24_range {ρ : Loc} : nameS ge01 (scAt 24) ρ (Str.ofString "range") = some (.typ "range") := by kernel_rfl
theorem k24_range : scAt 24 (Str.ofString "range") = some .globalImplicit := by kernel_rfl
theorem g24_len {ρ : Loc} : nameS ge01 (scAt 24) ρ (Str.ofString "len") = some (.bif "len") := by kernel_rfl
theorem g24__law_mixed {ρ : Loc} : nameS ge01 (scAt 24) ρ (Str.ofString "_law_mixed") = some (.glb (Str.ofString "_law_mixed")) := by kernel_rfl
theorem l25__law_pick {ge : Str → Option V} {ρ : Loc} : nameS ge (scAt 25) ρ (Str.ofString "_law_pick") = ρ (Str.ofString "_law_pick") := by kernel_rfl
theorem s25__law_pick {p : Pos} {v : V} {ρ : Loc} : bindS (scAt 25) (.Name (Str.ofString "_law_pick") p) v ρ = some (ρ.set (Str.ofString "_law_pick") v) := by kernel_rfl
theorem l25__law_thing {ge : Str → Option V} {ρ : Loc} : nameS ge (scAt 25) ρ (Str.ofString "_law_thing") = ρ (Str.ofString "_law_thing") := by kernel_rfl
theorem s25__law_thing {p : Pos} {v : V} {ρ : Loc} : bindS (scAt 25) (.Name (Str.ofString "_law_thing") p) v ρ = some (ρ.set (Str.ofString "_law_thing") v) := by kernel_rfl
theorem g25_short {ρ : Loc} : nameS ge01 (scAt 25) ρ (Str.ofString "short") = some (.glb (Str.ofString "short")) := by kernel_rfl
theorem g25_back {ρ : Loc} : nameS ge01 (scAt 25) ρ (Str.ofString "back") = some (.glb (Str.ofString "back")) := by kernel_rfl
theorem g25_times {ρ : Loc} : nameS ge01 (scAt 25) ρ (Str.ofString "times") = some (.glb (Str.ofString "times")) := by kernel_rfl
theorem l26__law_pick {ge : Str → Option V} {ρ : Loc} : nameS ge (scAt 26) ρ (Str.ofString "_law_pick") = ρ (Str.ofString "_law_pick") := by kernel_rfl
theorem s26__law_pick {p : Pos} {v : V} {ρ : Loc} : bindS (scAt 26) (.Name (Str.ofString "_law_pick") p) v ρ = some (ρ.set (Str.ofString "_law_pick") v) := by kernel_rfl
theorem l26__law_thing {ge : Str → Option V} {ρ : Loc} : nameS ge (scAt 26) ρ (Str.ofString "_law_thing") = ρ (Str.ofString "_law_thing") := by kernel_rfl
theorem s26__law_thing {p : Pos} {v : V} {ρ : Loc} : bindS (scAt 26) (.Name (Str.ofString "_law_thing") p) v ρ = some (ρ.set (Str.ofString "_law_thing") v) := by kernel_rfl
theorem l26_error {ge : Str → Option V} {ρ : Loc} : nameS ge (scAt 26) ρ (Str.ofString "error") = ρ (Str.ofString "error") := by kernel_rfl
theorem s26_error {p : Pos} {v : V} {ρ : Loc} : bindS (scAt 26) (.Name (Str.ofString "error") p) v ρ = some (ρ.set (Str.ofString "error") v) := by kernel_rfl
theorem g26__law_called {ρ : Loc} : nameS ge01 (scAt 26) ρ (Str.ofString "_law_called") = some (.glb (Str.ofString "_law_called")) := by kernel_rfl
theorem g26_GlueError {ρ : Loc} : nameS ge01 (scAt 26) ρ (Str.ofString "GlueError") = some (.glb (Str.ofString "GlueError")) := by kernel_rfl
theorem g26_isinstance {ρ : Loc} : nameS ge01 (scAt 26) ρ (Str.ofString "isinstance") = some (.bif "isinstance") := by kernel_rfl
theorem g26_BadWord {ρ : Loc} : nameS ge01 (scAt 26) ρ (Str.ofString "BadWord") = some (.glb (Str.ofString "BadWord")) := by kernel_rfl
theorem k26_BadWord : scAt 26 (Str.ofString "BadWord") = some .globalImplicit := by kernel_rfl
theorem g26_ValueError {ρ : Loc} : nameS ge01 (scAt 26) ρ (Str.ofString "ValueError") = some (.typ "ValueError") := by kernel_rfl
theorem g26_BadWeb {ρ : Loc} : nameS ge01 (scAt 26) ρ (Str.ofString "BadWeb") = some (.glb (Str.ofString "BadWeb")) := by kernel_rfl
theorem l27__law_found {ge : Str → Option V} {ρ : Loc} : nameS ge (scAt 27) ρ (Str.ofString "_law_found") = ρ (Str.ofString "_law_found") := by kernel_rfl
theorem s27__law_found {p : Pos} {v : V} {ρ : Loc} : bindS (scAt 27) (.Name (Str.ofString "_law_found") p) v ρ = some (ρ.set (Str.ofString "_law_found") v) := by kernel_rfl
theorem l27__law_due {ge : Str → Option V} {ρ : Loc} : nameS ge (scAt 27) ρ (Str.ofString "_law_due") = ρ (Str.ofString "_law_due") := by kernel_rfl
theorem s27__law_due {p : Pos} {v : V} {ρ : Loc} : bindS (scAt 27) (.Name (Str.ofString "_law_due") p) v ρ = some (ρ.set (Str.ofString "_law_due") v) := by kernel_rfl
theorem g27_isinstance {ρ : Loc} : nameS ge01 (scAt 27) ρ (Str.ofString "isinstance") = some (.bif "isinstance") := by kernel_rfl
theorem g27_str {ρ : Loc} : nameS ge01 (scAt 27) ρ (Str.ofString "str") = some (.typ "str") := by kernel_rfl
theorem l28__law_script {ge : Str → Option V} {ρ : Loc} : nameS ge (scAt 28) ρ (Str.ofString "_law_script") = ρ (Str.ofString "_law_script") := by kernel_rfl
theorem s28__law_script {p : Pos} {v : V} {ρ : Loc} : bindS (scAt 28) (.Name (Str.ofString "_law_script") p) v ρ = some (ρ.set (Str.ofString "_law_script") v) := by kernel_rfl
theorem l28__law_letters_here {ge : Str → Option V} {ρ : Loc} : nameS ge (scAt 28) ρ (Str.ofString "_law_letters_here") = ρ (Str.ofString "_law_letters_here") := by kernel_rfl
theorem s28__law_letters_here {p : Pos} {v : V} {ρ : Loc} : bindS (scAt 28) (.Name (Str.ofString "_law_letters_here") p) v ρ = some (ρ.set (Str.ofString "_law_letters_here") v) := by kernel_rfl
theorem l28__law_word_here {ge : Str → Option V} {ρ : Loc} : nameS ge (scAt 28) ρ (Str.ofString "_law_word_here") = ρ (Str.ofString "_law_word_here") := by kernel_rfl
theorem s28__law_word_here {p : Pos} {v : V} {ρ : Loc} : bindS (scAt 28) (.Name (Str.ofString "_law_word_here") p) v ρ = some (ρ.set (Str.ofString "_law_word_here") v) := by kernel_rfl
theorem l28__law_other {ge : Str → Option V} {ρ : Loc} : nameS ge (scAt 28) ρ (Str.ofString "_law_other") = ρ (Str.ofString "_law_other") := by kernel_rfl
theorem s28__law_other {p : Pos} {v : V} {ρ : Loc} : bindS (scAt 28) (.Name (Str.ofString "_law_other") p) v ρ = some (ρ.set (Str.ofString "_law_other") v) := by kernel_rfl
theorem l28__law_due {ge : Str → Option V} {ρ : Loc} : nameS ge (scAt 28) ρ (Str.ofString "_law_due") = ρ (Str.ofString "_law_due") := by kernel_rfl
theorem s28__law_due {p : Pos} {v : V} {ρ : Loc} : bindS (scAt 28) (.Name (Str.ofString "_law_due") p) v ρ = some (ρ.set (Str.ofString "_law_due") v) := by kernel_rfl
theorem l28__law_last {ge : Str → Option V} {ρ : Loc} : nameS ge (scAt 28) ρ (Str.ofString "_law_last") = ρ (Str.ofString "_law_last") := by kernel_rfl
theorem s28__law_last {p : Pos} {v : V} {ρ : Loc} : bindS (scAt 28) (.Name (Str.ofString "_law_last") p) v ρ = some (ρ.set (Str.ofString "_law_last") v) := by kernel_rfl
theorem l28__law_both {ge : Str → Option V} {ρ : Loc} : nameS ge (scAt 28) ρ (Str.ofString "_law_both") = ρ (Str.ofString "_law_both") := by kernel_rfl
theorem s28__law_both {p : Pos} {v : V} {ρ : Loc} : bindS (scAt 28) (.Name (Str.ofString "_law_both") p) v ρ = some (ρ.set (Str.ofString "_law_both") v) := by kernel_rfl
theorem l28__law_things {ge : Str → Option V} {ρ : Loc} : nameS ge (scAt 28) ρ (Str.ofString "_law_things") = ρ (Str.ofString "_law_things") := by kernel_rfl
theorem s28__law_things {p : Pos} {v : V} {ρ : Loc} : bindS (scAt 28) (.Name (Str.ofString "_law_things") p) v ρ = some (ρ.set (Str.ofString "_law_things") v) := by kernel_rfl
theorem l28__law_thing {ge : Str → Option V} {ρ : Loc} : nameS ge (scAt 28) ρ (Str.ofString "_law_thing") = ρ (Str.ofString "_law_thing") := by kernel_rfl
theorem s28__law_thing {p : Pos} {v : V} {ρ : Loc} : bindS (scAt 28) (.Name (Str.ofString "_law_thing") p) v ρ = some (ρ.set (Str.ofString "_law_thing") v) := by kernel_rfl
theorem g28__law_letters {ρ : Loc} : nameS ge01 (scAt 28) ρ (Str.ofString "_law_letters") = some (.glb (Str.ofString "_law_letters")) := by kernel_rfl
theorem g28__law_cell {ρ : Loc} : nameS ge01 (scAt 28) ρ (Str.ofString "_law_cell") = some (.glb (Str.ofString "_law_cell")) := by kernel_rfl
theorem g28__law_word {ρ : Loc} : nameS ge01 (scAt 28) ρ (Str.ofString "_law_word") = some (.glb (Str.ofString "_law_word")) := by kernel_rfl
theorem g28__law_taken_out {ρ : Loc} : nameS ge01 (scAt 28) ρ (Str.ofString "_law_taken_out") = some (.glb (Str.ofString "_law_taken_out")) := by kernel_rfl
theorem g28_is_word {ρ : Loc} : nameS ge01 (scAt 28) ρ (Str.ofString "is_word") = some (.glb (Str.ofString "is_word")) := by kernel_rfl
theorem g28__law_is {ρ : Loc} : nameS ge01 (scAt 28) ρ (Str.ofString "_law_is") = some (.glb (Str.ofString "_law_is")) := by kernel_rfl
theorem g28_short {ρ : Loc} : nameS ge01 (scAt 28) ρ (Str.ofString "short") = some (.glb (Str.ofString "short")) := by kernel_rfl
theorem g28_back {ρ : Loc} : nameS ge01 (scAt 28) ρ (Str.ofString "back") = some (.glb (Str.ofString "back")) := by kernel_rfl
theorem g28__law_turned {ρ : Loc} : nameS ge01 (scAt 28) ρ (Str.ofString "_law_turned") = some (.glb (Str.ofString "_law_turned")) := by kernel_rfl
theorem g28_times {ρ : Loc} : nameS ge01 (scAt 28) ρ (Str.ofString "times") = some (.glb (Str.ofString "times")) := by kernel_rfl
theorem g28__law_refused {ρ : Loc} : nameS ge01 (scAt 28) ρ (Str.ofString "_law_refused") = some (.glb (Str.ofString "_law_refused")) := by kernel_rfl
end Mine

set_option linter.unusedVariables false
set_option autoImplicit false
set_option linter.unusedSimpArgs false
namespace Mine
open PySem PySem.Calls PyProof.Rows
section
variable (G : Gl) (w : World) (lvl : Nat)
theorem b_letter_back : Body G w 9 ["letter"] 0 t_letter := by
  rintro n b sc h args σ Q X ⟨c, rfl, hc, hQ⟩
  cases (h.symm.trans rfl : some _ = some _)
  clear h
  refine ⟨rfl, ?_⟩
  simp only [wpSs_nil, wpSs_cons, wpS_Return, wpS_Pass, wpS_Expr, wpS_AssignN, wpS_If, wpS_For, wpS_Raise, wpS_Try, wpE_Constant, wpE_Name, wpE_BinOp, wpE_UnaryOp, wpE_BoolOp, wpE_Compare, wpE_IfExp, wpE_Tuple, wpE_List, wpE_Meth, wpE_Call, wpE_Slice, wpE_ItemN, wpE_ItemB, wpE_ItemK, wpE_ItemU, wpE_ItemC, wpE_CompN, wpE_Comp1, compK, wpL_nil, wpL_cons, wpO_none, wpO_some, wpB_one, wpB_cons, wpIf_nil, wpIf_cons, wpH, wpTry, notSet_N, notSet_C, notSet_K, notSet_S, notSet_B, notSet_L, notCompB_C, plain_nil, plain_N, plain_C, plain_K, plain_S, plain_B, plain_L, meth_N, meth_K, const_int, const_str, const_bool, const_none, raise_lit, headOf_range, headOf_rev, headOf_name, tgt_plain, tgt_range, tgt_rev, bind_cmp, bs_local, bs_cell, isHead_range, isHead_rev, ok_plain, ok_range, ok_rev, head_plain, head_range, nameS_cmp, ks_local, ks_cell, ks_free, ks_glob, cY, oY, cB, oB, ge_SMALL, ge_GREAT, ge_range, ge_reversed, ge_letter_back, ge__law_back, c_is_word, c_need_word, c_letter_back, c_shortened, c_turned, c_short, c_back, c_times, c__law_cell, c__law_mixed, c__law_letters, c__law_back, c__law_word, c__law_turned, c__law_taken_out, c__law_called, c__law_refused, c__law_is, o_is_word, o_need_word, o_letter_back, o_shortened, o_turned, o_short, o_back, o_times, o__law_cell, o__law_mixed, o__law_letters, o__law_back, o__law_word, o__law_turned, o__law_taken_out, o__law_called, o__law_refused, o__law_is, D01_G, D01_ge, D01_lvl, lookup_lit, String.reduceBEq, String.reduceEq, decide_true, decide_false, ofString_inj, bindR, List.zip, List.zipWith, List.zip_cons_cons, List.zip_nil_left, List.zip_nil_right, set_lit, if_true, if_false, ite_true, ite_false, Option.some.injEq, exists_eq_left', exists_eq_left, true_and, and_true, Option.isSome_some, Option.isSome_none, reduceCtorEq, or_true, true_or, or_false, false_or, List.isEmpty_nil, List.isEmpty_cons, beq_self_eq_true, Bool.and_true, Bool.true_and, List.length_cons, List.length_nil, Nat.reduceAdd, Nat.reduceLT, Nat.reduceLeDiff, Nat.reduceEqDiff, Nat.reduceBEq, decide_eq_true_eq, Bool.false_eq_true, Option.isNone_none, Bool.true_eq_false, ne_eq, not_true_eq_false, not_false_eq_true, true_implies, Prod.mk.injEq, and_self, Bool.or_false, Bool.or_true, Bool.false_or, Bool.true_or, List.cons.injEq, V.bool.injEq, V.int.injEq, retQ, V.typ.injEq, V.ref.injEq, V.str.injEq, and_assoc, exists_and_left, not_false_eq_true, Bool.not_eq_true, Bool.not_eq_false, cmpS, unS_not, unS_neg, add_int, sub_int, mul_int, div_int, mod_int, iter_S, rev_S, l9_letter, s9_letter, g9_SMALL, g9_GREAT]
  have hc' := isL_iff.mp hc
  refine in_S ?_
  rw [in_small]
  by_cases hs : smL c = true
  · obtain ⟨h1, h2, h3⟩ := smalls c (by omega) hs
    rw [hs]
    exact ⟨rfl, index_S h1 (item_str h3 h2 (by omega) ⟨σ, .refl σ, hQ⟩)⟩
  · have hr : 65 ≤ c ∧ c ≤ 90 := by
      simp only [smL, Bool.and_eq_true, decide_eq_true_eq] at hs; omega
    obtain ⟨h1, h2, h3⟩ := greats c (by omega) hr.1
    rw [Bool.eq_false_iff.mpr hs]
    exact ⟨rfl, index_S h1 (item_str h3 h2 (by omega) ⟨σ, .refl σ, hQ⟩)⟩

theorem b_is_word : Body G w 7 ["thing"] 0 t_is_word := by
  rintro n b sc h args σ Q X ⟨a, rfl, hh⟩
  cases (h.symm.trans rfl : some _ = some _)
  clear h
  refine ⟨rfl, ?_⟩
  simp only [wpSs_nil, wpSs_cons, wpS_Return, wpS_Pass, wpS_Expr, wpS_AssignN, wpS_If, wpS_For, wpS_Raise, wpS_Try, wpE_Constant, wpE_Name, wpE_BinOp, wpE_UnaryOp, wpE_BoolOp, wpE_Compare, wpE_IfExp, wpE_Tuple, wpE_List, wpE_Meth, wpE_Call, wpE_Slice, wpE_ItemN, wpE_ItemB, wpE_ItemK, wpE_ItemU, wpE_ItemC, wpE_CompN, wpE_Comp1, compK, wpL_nil, wpL_cons, wpO_none, wpO_some, wpB_one, wpB_cons, wpIf_nil, wpIf_cons, wpH, wpTry, notSet_N, notSet_C, notSet_K, notSet_S, notSet_B, notSet_L, notCompB_C, plain_nil, plain_N, plain_C, plain_K, plain_S, plain_B, plain_L, meth_N, meth_K, const_int, const_str, const_bool, const_none, raise_lit, headOf_range, headOf_rev, headOf_name, tgt_plain, tgt_range, tgt_rev, bind_cmp, bs_local, bs_cell, isHead_range, isHead_rev, ok_plain, ok_range, ok_rev, head_plain, head_range, nameS_cmp, ks_local, ks_cell, ks_free, ks_glob, cY, oY, cB, oB, ge_SMALL, ge_GREAT, ge_range, ge_reversed, ge_letter_back, ge__law_back, c_is_word, c_need_word, c_letter_back, c_shortened, c_turned, c_short, c_back, c_times, c__law_cell, c__law_mixed, c__law_letters, c__law_back, c__law_word, c__law_turned, c__law_taken_out, c__law_called, c__law_refused, c__law_is, o_is_word, o_need_word, o_letter_back, o_shortened, o_turned, o_short, o_back, o_times, o__law_cell, o__law_mixed, o__law_letters, o__law_back, o__law_word, o__law_turned, o__law_taken_out, o__law_called, o__law_refused, o__law_is, D01_G, D01_ge, D01_lvl, lookup_lit, String.reduceBEq, String.reduceEq, decide_true, decide_false, ofString_inj, bindR, List.zip, List.zipWith, List.zip_cons_cons, List.zip_nil_left, List.zip_nil_right, set_lit, if_true, if_false, ite_true, ite_false, Option.some.injEq, exists_eq_left', exists_eq_left, true_and, and_true, Option.isSome_some, Option.isSome_none, reduceCtorEq, or_true, true_or, or_false, false_or, List.isEmpty_nil, List.isEmpty_cons, beq_self_eq_true, Bool.and_true, Bool.true_and, List.length_cons, List.length_nil, Nat.reduceAdd, Nat.reduceLT, Nat.reduceLeDiff, Nat.reduceEqDiff, Nat.reduceBEq, decide_eq_true_eq, Bool.false_eq_true, Option.isNone_none, Bool.true_eq_false, ne_eq, not_true_eq_false, not_false_eq_true, true_implies, Prod.mk.injEq, and_self, Bool.or_false, Bool.or_true, Bool.false_or, Bool.true_or, List.cons.injEq, V.bool.injEq, V.int.injEq, retQ, V.typ.injEq, V.ref.injEq, V.str.injEq, and_assoc, exists_and_left, not_false_eq_true, Bool.not_eq_true, Bool.not_eq_false, cmpS, unS_not, unS_neg, add_int, sub_int, mul_int, div_int, mod_int, iter_S, rev_S, l7_thing, s7_thing, g7_isinstance, g7_str, g7_all, callB, unS]
  refine ⟨.head _, ?_⟩
  rcases hh with ⟨w', rfl, hl, hQ⟩ | ⟨hf, hQ⟩
  · refine ⟨true, rfl, ?_⟩
    simp only [wpSs_nil, wpSs_cons, wpS_Return, wpS_Pass, wpS_Expr, wpS_AssignN, wpS_If, wpS_For, wpS_Raise, wpS_Try, wpE_Constant, wpE_Name, wpE_BinOp, wpE_UnaryOp, wpE_BoolOp, wpE_Compare, wpE_IfExp, wpE_Tuple, wpE_List, wpE_Meth, wpE_Call, wpE_Slice, wpE_ItemN, wpE_ItemB, wpE_ItemK, wpE_ItemU, wpE_ItemC, wpE_CompN, wpE_Comp1, compK, wpL_nil, wpL_cons, wpO_none, wpO_some, wpB_one, wpB_cons, wpIf_nil, wpIf_cons, wpH, wpTry, notSet_N, notSet_C, notSet_K, notSet_S, notSet_B, notSet_L, notCompB_C, plain_nil, plain_N, plain_C, plain_K, plain_S, plain_B, plain_L, meth_N, meth_K, const_int, const_str, const_bool, const_none, raise_lit, headOf_range, headOf_rev, headOf_name, tgt_plain, tgt_range, tgt_rev, bind_cmp, bs_local, bs_cell, isHead_range, isHead_rev, ok_plain, ok_range, ok_rev, head_plain, head_range, nameS_cmp, ks_local, ks_cell, ks_free, ks_glob, cY, oY, cB, oB, ge_SMALL, ge_GREAT, ge_range, ge_reversed, ge_letter_back, ge__law_back, c_is_word, c_need_word, c_letter_back, c_shortened, c_turned, c_short, c_back, c_times, c__law_cell, c__law_mixed, c__law_letters, c__law_back, c__law_word, c__law_turned, c__law_taken_out, c__law_called, c__law_refused, c__law_is, o_is_word, o_need_word, o_letter_back, o_shortened, o_turned, o_short, o_back, o_times, o__law_cell, o__law_mixed, o__law_letters, o__law_back, o__law_word, o__law_turned, o__law_taken_out, o__law_called, o__law_refused, o__law_is, D01_G, D01_ge, D01_lvl, lookup_lit, String.reduceBEq, String.reduceEq, decide_true, decide_false, ofString_inj, bindR, List.zip, List.zipWith, List.zip_cons_cons, List.zip_nil_left, List.zip_nil_right, set_lit, if_true, if_false, ite_true, ite_false, Option.some.injEq, exists_eq_left', exists_eq_left, true_and, and_true, Option.isSome_some, Option.isSome_none, reduceCtorEq, or_true, true_or, or_false, false_or, List.isEmpty_nil, List.isEmpty_cons, beq_self_eq_true, Bool.and_true, Bool.true_and, List.length_cons, List.length_nil, Nat.reduceAdd, Nat.reduceLT, Nat.reduceLeDiff, Nat.reduceEqDiff, Nat.reduceBEq, decide_eq_true_eq, Bool.false_eq_true, Option.isNone_none, Bool.true_eq_false, ne_eq, not_true_eq_false, not_false_eq_true, true_implies, Prod.mk.injEq, and_self, Bool.or_false, Bool.or_true, Bool.false_or, Bool.true_or, List.cons.injEq, V.bool.injEq, V.int.injEq, retQ, V.typ.injEq, V.ref.injEq, V.str.injEq, and_assoc, exists_and_left, not_false_eq_true, Bool.not_eq_true, Bool.not_eq_false, cmpS, unS_not, unS_neg, add_int, sub_int, mul_int, div_int, mod_int, iter_S, rev_S, l7_thing, s7_thing, g7_isinstance, g7_str, g7_all, iterS]
    refine ⟨compOk_of (by kernel_rfl), by simp [fit] at hl ⊢; omega, ?_⟩
    refine compL_map (fun _ => True) _ (fun c => .bool (isL c)) trivial trivial ?_ ?_
    · intro c hx ρ k _ hk
      simp only [wpSs_nil, wpSs_cons, wpS_Return, wpS_Pass, wpS_Expr, wpS_AssignN, wpS_If, wpS_For, wpS_Raise, wpS_Try, wpE_Constant, wpE_Name, wpE_BinOp, wpE_UnaryOp, wpE_BoolOp, wpE_Compare, wpE_IfExp, wpE_Tuple, wpE_List, wpE_Meth, wpE_Call, wpE_Slice, wpE_ItemN, wpE_ItemB, wpE_ItemK, wpE_ItemU, wpE_ItemC, wpE_CompN, wpE_Comp1, compK, wpL_nil, wpL_cons, wpO_none, wpO_some, wpB_one, wpB_cons, wpIf_nil, wpIf_cons, wpH, wpTry, notSet_N, notSet_C, notSet_K, notSet_S, notSet_B, notSet_L, notCompB_C, plain_nil, plain_N, plain_C, plain_K, plain_S, plain_B, plain_L, meth_N, meth_K, const_int, const_str, const_bool, const_none, raise_lit, headOf_range, headOf_rev, headOf_name, tgt_plain, tgt_range, tgt_rev, bind_cmp, bs_local, bs_cell, isHead_range, isHead_rev, ok_plain, ok_range, ok_rev, head_plain, head_range, nameS_cmp, ks_local, ks_cell, ks_free, ks_glob, cY, oY, cB, oB, ge_SMALL, ge_GREAT, ge_range, ge_reversed, ge_letter_back, ge__law_back, c_is_word, c_need_word, c_letter_back, c_shortened, c_turned, c_short, c_back, c_times, c__law_cell, c__law_mixed, c__law_letters, c__law_back, c__law_word, c__law_turned, c__law_taken_out, c__law_called, c__law_refused, c__law_is, o_is_word, o_need_word, o_letter_back, o_shortened, o_turned, o_short, o_back, o_times, o__law_cell, o__law_mixed, o__law_letters, o__law_back, o__law_word, o__law_turned, o__law_taken_out, o__law_called, o__law_refused, o__law_is, D01_G, D01_ge, D01_lvl, lookup_lit, String.reduceBEq, String.reduceEq, decide_true, decide_false, ofString_inj, bindR, List.zip, List.zipWith, List.zip_cons_cons, List.zip_nil_left, List.zip_nil_right, set_lit, if_true, if_false, ite_true, ite_false, Option.some.injEq, exists_eq_left', exists_eq_left, true_and, and_true, Option.isSome_some, Option.isSome_none, reduceCtorEq, or_true, true_or, or_false, false_or, List.isEmpty_nil, List.isEmpty_cons, beq_self_eq_true, Bool.and_true, Bool.true_and, List.length_cons, List.length_nil, Nat.reduceAdd, Nat.reduceLT, Nat.reduceLeDiff, Nat.reduceEqDiff, Nat.reduceBEq, decide_eq_true_eq, Bool.false_eq_true, Option.isNone_none, Bool.true_eq_false, ne_eq, not_true_eq_false, not_false_eq_true, true_implies, Prod.mk.injEq, and_self, Bool.or_false, Bool.or_true, Bool.false_or, Bool.true_or, List.cons.injEq, V.bool.injEq, V.int.injEq, retQ, V.typ.injEq, V.ref.injEq, V.str.injEq, and_assoc, exists_and_left, not_false_eq_true, Bool.not_eq_true, Bool.not_eq_false, cmpS, unS_not, unS_neg, add_int, sub_int, mul_int, div_int, mod_int, iter_S, rev_S, l7_thing, s7_thing, g7_isinstance, g7_str, g7_all, S, inS, in_small, in_great]
      by_cases h1 : smL c = true
      · rw [if_pos h1]; have := hk (ρ.set "sign" (S [c])) trivial; simpa [isL, h1, S] using this
      · rw [if_neg h1]; have := hk (ρ.set "sign" (S [c])) trivial; simpa [isL, h1, S] using this
    · intro r hr
      simp only [wpSs_nil, wpSs_cons, wpS_Return, wpS_Pass, wpS_Expr, wpS_AssignN, wpS_If, wpS_For, wpS_Raise, wpS_Try, wpE_Constant, wpE_Name, wpE_BinOp, wpE_UnaryOp, wpE_BoolOp, wpE_Compare, wpE_IfExp, wpE_Tuple, wpE_List, wpE_Meth, wpE_Call, wpE_Slice, wpE_ItemN, wpE_ItemB, wpE_ItemK, wpE_ItemU, wpE_ItemC, wpE_CompN, wpE_Comp1, compK, wpL_nil, wpL_cons, wpO_none, wpO_some, wpB_one, wpB_cons, wpIf_nil, wpIf_cons, wpH, wpTry, notSet_N, notSet_C, notSet_K, notSet_S, notSet_B, notSet_L, notCompB_C, plain_nil, plain_N, plain_C, plain_K, plain_S, plain_B, plain_L, meth_N, meth_K, const_int, const_str, const_bool, const_none, raise_lit, headOf_range, headOf_rev, headOf_name, tgt_plain, tgt_range, tgt_rev, bind_cmp, bs_local, bs_cell, isHead_range, isHead_rev, ok_plain, ok_range, ok_rev, head_plain, head_range, nameS_cmp, ks_local, ks_cell, ks_free, ks_glob, cY, oY, cB, oB, ge_SMALL, ge_GREAT, ge_range, ge_reversed, ge_letter_back, ge__law_back, c_is_word, c_need_word, c_letter_back, c_shortened, c_turned, c_short, c_back, c_times, c__law_cell, c__law_mixed, c__law_letters, c__law_back, c__law_word, c__law_turned, c__law_taken_out, c__law_called, c__law_refused, c__law_is, o_is_word, o_need_word, o_letter_back, o_shortened, o_turned, o_short, o_back, o_times, o__law_cell, o__law_mixed, o__law_letters, o__law_back, o__law_word, o__law_turned, o__law_taken_out, o__law_called, o__law_refused, o__law_is, D01_G, D01_ge, D01_lvl, lookup_lit, String.reduceBEq, String.reduceEq, decide_true, decide_false, ofString_inj, bindR, List.zip, List.zipWith, List.zip_cons_cons, List.zip_nil_left, List.zip_nil_right, set_lit, if_true, if_false, ite_true, ite_false, Option.some.injEq, exists_eq_left', exists_eq_left, true_and, and_true, Option.isSome_some, Option.isSome_none, reduceCtorEq, or_true, true_or, or_false, false_or, List.isEmpty_nil, List.isEmpty_cons, beq_self_eq_true, Bool.and_true, Bool.true_and, List.length_cons, List.length_nil, Nat.reduceAdd, Nat.reduceLT, Nat.reduceLeDiff, Nat.reduceEqDiff, Nat.reduceBEq, decide_eq_true_eq, Bool.false_eq_true, Option.isNone_none, Bool.true_eq_false, ne_eq, not_true_eq_false, not_false_eq_true, true_implies, Prod.mk.injEq, and_self, Bool.or_false, Bool.or_true, Bool.false_or, Bool.true_or, List.cons.injEq, V.bool.injEq, V.int.injEq, retQ, V.typ.injEq, V.ref.injEq, V.str.injEq, and_assoc, exists_and_left, not_false_eq_true, Bool.not_eq_true, Bool.not_eq_false, cmpS, unS_not, unS_neg, add_int, sub_int, mul_int, div_int, mod_int, iter_S, rev_S, l7_thing, s7_thing, g7_isinstance, g7_str, g7_all, Store.set_same, Cell.list.injEq, allBools_map]
      exact ⟨σ, (SubS.refl σ).set hr, by simpa [List.all_map] using hQ⟩
  · exact ⟨false, hf, σ, .refl σ, hQ⟩

theorem b_need_word : Body G w 8 ["thing"] 1 t_need_word := by
  rintro n b sc h args σ Q X ⟨a, rfl, hh⟩
  cases (h.symm.trans rfl : some _ = some _)
  clear h
  refine ⟨rfl, ?_⟩
  simp only [wpSs_nil, wpSs_cons, wpS_Return, wpS_Pass, wpS_Expr, wpS_AssignN, wpS_If, wpS_For, wpS_Raise, wpS_Try, wpE_Constant, wpE_Name, wpE_BinOp, wpE_UnaryOp, wpE_BoolOp, wpE_Compare, wpE_IfExp, wpE_Tuple, wpE_List, wpE_Meth, wpE_Call, wpE_Slice, wpE_ItemN, wpE_ItemB, wpE_ItemK, wpE_ItemU, wpE_ItemC, wpE_CompN, wpE_Comp1, compK, wpL_nil, wpL_cons, wpO_none, wpO_some, wpB_one, wpB_cons, wpIf_nil, wpIf_cons, wpH, wpTry, notSet_N, notSet_C, notSet_K, notSet_S, notSet_B, notSet_L, notCompB_C, plain_nil, plain_N, plain_C, plain_K, plain_S, plain_B, plain_L, meth_N, meth_K, const_int, const_str, const_bool, const_none, raise_lit, headOf_range, headOf_rev, headOf_name, tgt_plain, tgt_range, tgt_rev, bind_cmp, bs_local, bs_cell, isHead_range, isHead_rev, ok_plain, ok_range, ok_rev, head_plain, head_range, nameS_cmp, ks_local, ks_cell, ks_free, ks_glob, cY, oY, cB, oB, ge_SMALL, ge_GREAT, ge_range, ge_reversed, ge_letter_back, ge__law_back, c_is_word, c_need_word, c_letter_back, c_shortened, c_turned, c_short, c_back, c_times, c__law_cell, c__law_mixed, c__law_letters, c__law_back, c__law_word, c__law_turned, c__law_taken_out, c__law_called, c__law_refused, c__law_is, o_is_word, o_need_word, o_letter_back, o_shortened, o_turned, o_short, o_back, o_times, o__law_cell, o__law_mixed, o__law_letters, o__law_back, o__law_word, o__law_turned, o__law_taken_out, o__law_called, o__law_refused, o__law_is, D01_G, D01_ge, D01_lvl, lookup_lit, String.reduceBEq, String.reduceEq, decide_true, decide_false, ofString_inj, bindR, List.zip, List.zipWith, List.zip_cons_cons, List.zip_nil_left, List.zip_nil_right, set_lit, if_true, if_false, ite_true, ite_false, Option.some.injEq, exists_eq_left', exists_eq_left, true_and, and_true, Option.isSome_some, Option.isSome_none, reduceCtorEq, or_true, true_or, or_false, false_or, List.isEmpty_nil, List.isEmpty_cons, beq_self_eq_true, Bool.and_true, Bool.true_and, List.length_cons, List.length_nil, Nat.reduceAdd, Nat.reduceLT, Nat.reduceLeDiff, Nat.reduceEqDiff, Nat.reduceBEq, decide_eq_true_eq, Bool.false_eq_true, Option.isNone_none, Bool.true_eq_false, ne_eq, not_true_eq_false, not_false_eq_true, true_implies, Prod.mk.injEq, and_self, Bool.or_false, Bool.or_true, Bool.false_or, Bool.true_or, List.cons.injEq, V.bool.injEq, V.int.injEq, retQ, V.typ.injEq, V.ref.injEq, V.str.injEq, and_assoc, exists_and_left, not_false_eq_true, Bool.not_eq_true, Bool.not_eq_false, cmpS, unS_not, unS_neg, add_int, sub_int, mul_int, div_int, mod_int, iter_S, rev_S, l8_thing, s8_thing, g8_is_word, g8_BadWord, k8_BadWord]
  refine ⟨a, rfl, ?_⟩
  rcases hh with ⟨w', rfl, hl, hw, hQ⟩ | ⟨⟨w', rfl, hl, hw⟩ | hb, hX⟩
  · refine .inl ⟨w', rfl, hl, ?_⟩
    rw [List.all_eq_true.mpr hw]
    exact ⟨_, rfl, σ, .refl σ, hQ⟩
  · refine .inl ⟨w', rfl, hl, ?_⟩
    rw [Bool.eq_false_iff.mpr fun e => hw (List.all_eq_true.mp e)]
    exact ⟨_, rfl, ⟨rfl, rfl⟩, hX⟩
  · exact .inr ⟨hb, _, rfl, ⟨rfl, rfl⟩, hX⟩

theorem b_shortened : Body G w 10 ["word"] 1 t_red := by
  rintro n b sc h args σ Q X ⟨u, rfl, hl, hu, hQ⟩
  cases (h.symm.trans rfl : some _ = some _)
  clear h
  refine ⟨rfl, ?_⟩
  simp only [wpSs_nil, wpSs_cons, wpS_Return, wpS_Pass, wpS_Expr, wpS_AssignN, wpS_If, wpS_For, wpS_Raise, wpS_Try, wpE_Constant, wpE_Name, wpE_BinOp, wpE_UnaryOp, wpE_BoolOp, wpE_Compare, wpE_IfExp, wpE_Tuple, wpE_List, wpE_Meth, wpE_Call, wpE_Slice, wpE_ItemN, wpE_ItemB, wpE_ItemK, wpE_ItemU, wpE_ItemC, wpE_CompN, wpE_Comp1, compK, wpL_nil, wpL_cons, wpO_none, wpO_some, wpB_one, wpB_cons, wpIf_nil, wpIf_cons, wpH, wpTry, notSet_N, notSet_C, notSet_K, notSet_S, notSet_B, notSet_L, notCompB_C, plain_nil, plain_N, plain_C, plain_K, plain_S, plain_B, plain_L, meth_N, meth_K, const_int, const_str, const_bool, const_none, raise_lit, headOf_range, headOf_rev, headOf_name, tgt_plain, tgt_range, tgt_rev, bind_cmp, bs_local, bs_cell, isHead_range, isHead_rev, ok_plain, ok_range, ok_rev, head_plain, head_range, nameS_cmp, ks_local, ks_cell, ks_free, ks_glob, cY, oY, cB, oB, ge_SMALL, ge_GREAT, ge_range, ge_reversed, ge_letter_back, ge__law_back, c_is_word, c_need_word, c_letter_back, c_shortened, c_turned, c_short, c_back, c_times, c__law_cell, c__law_mixed, c__law_letters, c__law_back, c__law_word, c__law_turned, c__law_taken_out, c__law_called, c__law_refused, c__law_is, o_is_word, o_need_word, o_letter_back, o_shortened, o_turned, o_short, o_back, o_times, o__law_cell, o__law_mixed, o__law_letters, o__law_back, o__law_word, o__law_turned, o__law_taken_out, o__law_called, o__law_refused, o__law_is, D01_G, D01_ge, D01_lvl, lookup_lit, String.reduceBEq, String.reduceEq, decide_true, decide_false, ofString_inj, bindR, List.zip, List.zipWith, List.zip_cons_cons, List.zip_nil_left, List.zip_nil_right, set_lit, if_true, if_false, ite_true, ite_false, Option.some.injEq, exists_eq_left', exists_eq_left, true_and, and_true, Option.isSome_some, Option.isSome_none, reduceCtorEq, or_true, true_or, or_false, false_or, List.isEmpty_nil, List.isEmpty_cons, beq_self_eq_true, Bool.and_true, Bool.true_and, List.length_cons, List.length_nil, Nat.reduceAdd, Nat.reduceLT, Nat.reduceLeDiff, Nat.reduceEqDiff, Nat.reduceBEq, decide_eq_true_eq, Bool.false_eq_true, Option.isNone_none, Bool.true_eq_false, ne_eq, not_true_eq_false, not_false_eq_true, true_implies, Prod.mk.injEq, and_self, Bool.or_false, Bool.or_true, Bool.false_or, Bool.true_or, List.cons.injEq, V.bool.injEq, V.int.injEq, retQ, V.typ.injEq, V.ref.injEq, V.str.injEq, and_assoc, exists_and_left, not_false_eq_true, Bool.not_eq_true, Bool.not_eq_false, cmpS, unS_not, unS_neg, add_int, sub_int, mul_int, div_int, mod_int, iter_S, rev_S, l10_word, s10_word, l10_found, s10_found, l10_letter, s10_letter, g10_letter_back, nil_S]
  refine forL_ind (fun xs ρ τ => ∃ v st, xs = v.map (fun c => S [c]) ∧ ρ "found" = some (S st.reverse) ∧ Ls v ∧ Ls st ∧ st.length + v.length ≤ fit ∧ τ = σ ∧ rr st v = rr [] u) (fun _ _ _ _ => trivial) ?_ ?_ ?_
  · rintro ρ τ ⟨v, st, hv, hf, _, hs, hln, rfl, he⟩
    obtain rfl := List.map_eq_nil_iff.mp hv.symm
    refine ⟨_, hf, τ, .refl τ, ?_⟩
    have e : st.reverse = red u := by unfold red; rw [← he]; rfl
    rw [e]; exact hQ
  · rintro x xs ρ τ K ⟨v, st, hv, hf, hvl, hs, hln, rfl, he⟩ hn _ _ _
    cases v with
    | nil => cases hv
    | cons c v =>
      rw [List.map_cons, List.cons.injEq] at hv
      obtain ⟨rfl, rfl⟩ := hv
      have hc : isL c = true := hvl c (.head _)
      have hsz : sizeLine = 16777216 := rfl
      have hft : fit = 4096 := rfl
      simp only [hf, Option.some.injEq, exists_eq_left']
      have push : rp st c = c :: st → binS Operator.Add (S st.reverse) (S [c]) τ fun v σ₁ => K Fl.next ((ρ.set (Str.ofString "letter") (S [c])).set (Str.ofString "found") v) σ₁ := fun hp => by
        refine add_S (by simp at hln ⊢; omega) (hn _ _ ⟨v, c :: st, rfl, by simp [Loc.set], fun y hy => hvl y (.tail _ hy), fun y hy => ?_, by simp at hln ⊢; omega, rfl, ?_⟩)
        · rcases List.mem_cons.mp hy with rfl | hy
          · exact hc
          · exact hs y hy
        · rw [← he, rr_cons, hp]
      refine eq_S hs.reverse Ls.nil ?_
      cases st with
      | nil => exact push rfl
      | cons d st =>
        simp only [List.reverse_cons, List.append_eq_nil_iff, reduceCtorEq, and_false, decide_false, Bool.not_false]
        rw [if_neg (by decide)]
        refine last_S (c := d) (by simp at hln ⊢; omega) (by simp) ⟨c, rfl, hc, ?_⟩
        have hd : isL d = true := hs d (.head _)
        refine eq_S (fun y hy => by rw [List.mem_singleton.mp hy]; exact hd) (fun y hy => by rw [List.mem_singleton.mp hy]; exact isL_inv hc) ?_
        by_cases hdc : d = inv c
        · rw [if_pos (by simpa using hdc)]
          refine init_S (by simp at hln ⊢; omega) (hn _ _ ⟨v, st, rfl, by simp [Loc.set], fun y hy => hvl y (.tail _ hy), fun y hy => hs y (.tail _ hy), by simp at hln ⊢; omega, rfl, ?_⟩)
          rw [← he, rr_cons]; simp [rp, hdc]
        · rw [if_neg (by simpa using hdc)]
          have := push (by simp [rp, hdc])
          rw [List.reverse_cons] at this
          exact this
  · exact ⟨u, [], rfl, by simp [Loc.set], hu, Ls.nil, by simpa using hl, rfl, rfl⟩
end
end Mine

set_option linter.unusedVariables false
set_option autoImplicit false
set_option linter.unusedSimpArgs false
namespace Mine
open PySem PySem.Calls PyProof.Rows
section
variable (G : Gl) (w : World) (lvl : Nat)

theorem b_turned : Body G w 11 ["word"] 2 (t_ivr fun w => red (ivr w)) := by
  rintro n b sc h args σ Q X ⟨u, rfl, hl, hu, hQ⟩
  cases (h.symm.trans rfl : some _ = some _)
  clear h
  refine ⟨rfl, ?_⟩
  have hft : fit = 4096 := rfl
  simp only [wpSs_nil, wpSs_cons, wpS_Return, wpS_Pass, wpS_Expr, wpS_AssignN, wpS_If, wpS_For, wpS_Raise, wpS_Try, wpE_Constant, wpE_Name, wpE_BinOp, wpE_UnaryOp, wpE_BoolOp, wpE_Compare, wpE_IfExp, wpE_Tuple, wpE_List, wpE_Meth, wpE_Call, wpE_Slice, wpE_ItemN, wpE_ItemB, wpE_ItemK, wpE_ItemU, wpE_ItemC, wpE_CompN, wpE_Comp1, compK, wpL_nil, wpL_cons, wpO_none, wpO_some, wpB_one, wpB_cons, wpIf_nil, wpIf_cons, wpH, wpTry, notSet_N, notSet_C, notSet_K, notSet_S, notSet_B, notSet_L, notCompB_C, plain_nil, plain_N, plain_C, plain_K, plain_S, plain_B, plain_L, meth_N, meth_K, const_int, const_str, const_bool, const_none, raise_lit, headOf_range, headOf_rev, headOf_name, tgt_plain, tgt_range, tgt_rev, bind_cmp, bs_local, bs_cell, isHead_range, isHead_rev, ok_plain, ok_range, ok_rev, head_plain, head_range, nameS_cmp, ks_local, ks_cell, ks_free, ks_glob, cY, oY, cB, oB, ge_SMALL, ge_GREAT, ge_range, ge_reversed, ge_letter_back, ge__law_back, c_is_word, c_need_word, c_letter_back, c_shortened, c_turned, c_short, c_back, c_times, c__law_cell, c__law_mixed, c__law_letters, c__law_back, c__law_word, c__law_turned, c__law_taken_out, c__law_called, c__law_refused, c__law_is, o_is_word, o_need_word, o_letter_back, o_shortened, o_turned, o_short, o_back, o_times, o__law_cell, o__law_mixed, o__law_letters, o__law_back, o__law_word, o__law_turned, o__law_taken_out, o__law_called, o__law_refused, o__law_is, D01_G, D01_ge, D01_lvl, lookup_lit, String.reduceBEq, String.reduceEq, decide_true, decide_false, ofString_inj, bindR, List.zip, List.zipWith, List.zip_cons_cons, List.zip_nil_left, List.zip_nil_right, set_lit, if_true, if_false, ite_true, ite_false, Option.some.injEq, exists_eq_left', exists_eq_left, true_and, and_true, Option.isSome_some, Option.isSome_none, reduceCtorEq, or_true, true_or, or_false, false_or, List.isEmpty_nil, List.isEmpty_cons, beq_self_eq_true, Bool.and_true, Bool.true_and, List.length_cons, List.length_nil, Nat.reduceAdd, Nat.reduceLT, Nat.reduceLeDiff, Nat.reduceEqDiff, Nat.reduceBEq, decide_eq_true_eq, Bool.false_eq_true, Option.isNone_none, Bool.true_eq_false, ne_eq, not_true_eq_false, not_false_eq_true, true_implies, Prod.mk.injEq, and_self, Bool.or_false, Bool.or_true, Bool.false_or, Bool.true_or, List.cons.injEq, V.bool.injEq, V.int.injEq, retQ, V.typ.injEq, V.ref.injEq, V.str.injEq, and_assoc, exists_and_left, not_false_eq_true, Bool.not_eq_true, Bool.not_eq_false, cmpS, unS_not, unS_neg, add_int, sub_int, mul_int, div_int, mod_int, iter_S, rev_S, l11_word, s11_word, g11_shortened, g11_reversed, k11_reversed, nil_S, Option.isSome]
  refine ⟨rfl, compOk_of (by kernel_rfl), by omega, by simp; omega, ?_⟩
  refine compL_map (fun _ => True) _ (fun c => S [inv c]) trivial trivial ?_ ?_
  · intro c hx ρ k _ hk
    exact ⟨c, rfl, hu c (List.mem_reverse.mp hx), hk _ trivial⟩
  · intro r hr
    refine join_S (Store.set_same ..) (by simp; omega) ?_
    rw [List.map_reverse]
    exact ⟨ivr u, rfl, by simpa [ivr] using hl, hu.ivr, σ, (SubS.refl σ).set hr, hQ⟩
theorem b_short : Body G w 12 ["word"] 2 (t_short red) := by
  rintro n b sc h args σ Q X ⟨a, rfl, hh⟩
  cases (h.symm.trans rfl : some _ = some _)
  clear h
  refine ⟨rfl, ?_⟩
  simp only [wpSs_nil, wpSs_cons, wpS_Return, wpS_Pass, wpS_Expr, wpS_AssignN, wpS_If, wpS_For, wpS_Raise, wpS_Try, wpE_Constant, wpE_Name, wpE_BinOp, wpE_UnaryOp, wpE_BoolOp, wpE_Compare, wpE_IfExp, wpE_Tuple, wpE_List, wpE_Meth, wpE_Call, wpE_Slice, wpE_ItemN, wpE_ItemB, wpE_ItemK, wpE_ItemU, wpE_ItemC, wpE_CompN, wpE_Comp1, compK, wpL_nil, wpL_cons, wpO_none, wpO_some, wpB_one, wpB_cons, wpIf_nil, wpIf_cons, wpH, wpTry, notSet_N, notSet_C, notSet_K, notSet_S, notSet_B, notSet_L, notCompB_C, plain_nil, plain_N, plain_C, plain_K, plain_S, plain_B, plain_L, meth_N, meth_K, const_int, const_str, const_bool, const_none, raise_lit, headOf_range, headOf_rev, headOf_name, tgt_plain, tgt_range, tgt_rev, bind_cmp, bs_local, bs_cell, isHead_range, isHead_rev, ok_plain, ok_range, ok_rev, head_plain, head_range, nameS_cmp, ks_local, ks_cell, ks_free, ks_glob, cY, oY, cB, oB, ge_SMALL, ge_GREAT, ge_range, ge_reversed, ge_letter_back, ge__law_back, c_is_word, c_need_word, c_letter_back, c_shortened, c_turned, c_short, c_back, c_times, c__law_cell, c__law_mixed, c__law_letters, c__law_back, c__law_word, c__law_turned, c__law_taken_out, c__law_called, c__law_refused, c__law_is, o_is_word, o_need_word, o_letter_back, o_shortened, o_turned, o_short, o_back, o_times, o__law_cell, o__law_mixed, o__law_letters, o__law_back, o__law_word, o__law_turned, o__law_taken_out, o__law_called, o__law_refused, o__law_is, D01_G, D01_ge, D01_lvl, lookup_lit, String.reduceBEq, String.reduceEq, decide_true, decide_false, ofString_inj, bindR, List.zip, List.zipWith, List.zip_cons_cons, List.zip_nil_left, List.zip_nil_right, set_lit, if_true, if_false, ite_true, ite_false, Option.some.injEq, exists_eq_left', exists_eq_left, true_and, and_true, Option.isSome_some, Option.isSome_none, reduceCtorEq, or_true, true_or, or_false, false_or, List.isEmpty_nil, List.isEmpty_cons, beq_self_eq_true, Bool.and_true, Bool.true_and, List.length_cons, List.length_nil, Nat.reduceAdd, Nat.reduceLT, Nat.reduceLeDiff, Nat.reduceEqDiff, Nat.reduceBEq, decide_eq_true_eq, Bool.false_eq_true, Option.isNone_none, Bool.true_eq_false, ne_eq, not_true_eq_false, not_false_eq_true, true_implies, Prod.mk.injEq, and_self, Bool.or_false, Bool.or_true, Bool.false_or, Bool.true_or, List.cons.injEq, V.bool.injEq, V.int.injEq, retQ, V.typ.injEq, V.ref.injEq, V.str.injEq, and_assoc, exists_and_left, not_false_eq_true, Bool.not_eq_true, Bool.not_eq_false, cmpS, unS_not, unS_neg, add_int, sub_int, mul_int, div_int, mod_int, iter_S, rev_S, l12_word, s12_word, g12_need_word, g12_shortened]
  refine ⟨a, rfl, ?_⟩
  rcases hh with ⟨w', rfl, hl, hw, hQ⟩ | ⟨hb, hX⟩
  · exact .inl ⟨w', rfl, hl, hw, trivial, w', rfl, hl, hw, σ, .refl σ, hQ⟩
  · exact .inr ⟨hb, hX⟩
theorem b_back : Body G w 13 ["word"] 3 (t_short fun w => red (ivr w)) := by
  rintro n b sc h args σ Q X ⟨a, rfl, hh⟩
  cases (h.symm.trans rfl : some _ = some _)
  clear h
  refine ⟨rfl, ?_⟩
  simp only [wpSs_nil, wpSs_cons, wpS_Return, wpS_Pass, wpS_Expr, wpS_AssignN, wpS_If, wpS_For, wpS_Raise, wpS_Try, wpE_Constant, wpE_Name, wpE_BinOp, wpE_UnaryOp, wpE_BoolOp, wpE_Compare, wpE_IfExp, wpE_Tuple, wpE_List, wpE_Meth, wpE_Call, wpE_Slice, wpE_ItemN, wpE_ItemB, wpE_ItemK, wpE_ItemU, wpE_ItemC, wpE_CompN, wpE_Comp1, compK, wpL_nil, wpL_cons, wpO_none, wpO_some, wpB_one, wpB_cons, wpIf_nil, wpIf_cons, wpH, wpTry, notSet_N, notSet_C, notSet_K, notSet_S, notSet_B, notSet_L, notCompB_C, plain_nil, plain_N, plain_C, plain_K, plain_S, plain_B, plain_L, meth_N, meth_K, const_int, const_str, const_bool, const_none, raise_lit, headOf_range, headOf_rev, headOf_name, tgt_plain, tgt_range, tgt_rev, bind_cmp, bs_local, bs_cell, isHead_range, isHead_rev, ok_plain, ok_range, ok_rev, head_plain, head_range, nameS_cmp, ks_local, ks_cell, ks_free, ks_glob, cY, oY, cB, oB, ge_SMALL, ge_GREAT, ge_range, ge_reversed, ge_letter_back, ge__law_back, c_is_word, c_need_word, c_letter_back, c_shortened, c_turned, c_short, c_back, c_times, c__law_cell, c__law_mixed, c__law_letters, c__law_back, c__law_word, c__law_turned, c__law_taken_out, c__law_called, c__law_refused, c__law_is, o_is_word, o_need_word, o_letter_back, o_shortened, o_turned, o_short, o_back, o_times, o__law_cell, o__law_mixed, o__law_letters, o__law_back, o__law_word, o__law_turned, o__law_taken_out, o__law_called, o__law_refused, o__law_is, D01_G, D01_ge, D01_lvl, lookup_lit, String.reduceBEq, String.reduceEq, decide_true, decide_false, ofString_inj, bindR, List.zip, List.zipWith, List.zip_cons_cons, List.zip_nil_left, List.zip_nil_right, set_lit, if_true, if_false, ite_true, ite_false, Option.some.injEq, exists_eq_left', exists_eq_left, true_and, and_true, Option.isSome_some, Option.isSome_none, reduceCtorEq, or_true, true_or, or_false, false_or, List.isEmpty_nil, List.isEmpty_cons, beq_self_eq_true, Bool.and_true, Bool.true_and, List.length_cons, List.length_nil, Nat.reduceAdd, Nat.reduceLT, Nat.reduceLeDiff, Nat.reduceEqDiff, Nat.reduceBEq, decide_eq_true_eq, Bool.false_eq_true, Option.isNone_none, Bool.true_eq_false, ne_eq, not_true_eq_false, not_false_eq_true, true_implies, Prod.mk.injEq, and_self, Bool.or_false, Bool.or_true, Bool.false_or, Bool.true_or, List.cons.injEq, V.bool.injEq, V.int.injEq, retQ, V.typ.injEq, V.ref.injEq, V.str.injEq, and_assoc, exists_and_left, not_false_eq_true, Bool.not_eq_true, Bool.not_eq_false, cmpS, unS_not, unS_neg, add_int, sub_int, mul_int, div_int, mod_int, iter_S, rev_S, l13_word, s13_word, g13_need_word, g13_turned]
  refine ⟨a, rfl, ?_⟩
  rcases hh with ⟨w', rfl, hl, hw, hQ⟩ | ⟨hb, hX⟩
  · exact .inl ⟨w', rfl, hl, hw, trivial, w', rfl, hl, hw, σ, .refl σ, hQ⟩
  · exact .inr ⟨hb, hX⟩
theorem b_times : Body G w 14 ["one", "other"] 2 t_times := by
  rintro n b sc h args σ Q X ⟨a, a', rfl, hh⟩
  cases (h.symm.trans rfl : some _ = some _)
  clear h
  refine ⟨rfl, ?_⟩
  simp only [wpSs_nil, wpSs_cons, wpS_Return, wpS_Pass, wpS_Expr, wpS_AssignN, wpS_If, wpS_For, wpS_Raise, wpS_Try, wpE_Constant, wpE_Name, wpE_BinOp, wpE_UnaryOp, wpE_BoolOp, wpE_Compare, wpE_IfExp, wpE_Tuple, wpE_List, wpE_Meth, wpE_Call, wpE_Slice, wpE_ItemN, wpE_ItemB, wpE_ItemK, wpE_ItemU, wpE_ItemC, wpE_CompN, wpE_Comp1, compK, wpL_nil, wpL_cons, wpO_none, wpO_some, wpB_one, wpB_cons, wpIf_nil, wpIf_cons, wpH, wpTry, notSet_N, notSet_C, notSet_K, notSet_S, notSet_B, notSet_L, notCompB_C, plain_nil, plain_N, plain_C, plain_K, plain_S, plain_B, plain_L, meth_N, meth_K, const_int, const_str, const_bool, const_none, raise_lit, headOf_range, headOf_rev, headOf_name, tgt_plain, tgt_range, tgt_rev, bind_cmp, bs_local, bs_cell, isHead_range, isHead_rev, ok_plain, ok_range, ok_rev, head_plain, head_range, nameS_cmp, ks_local, ks_cell, ks_free, ks_glob, cY, oY, cB, oB, ge_SMALL, ge_GREAT, ge_range, ge_reversed, ge_letter_back, ge__law_back, c_is_word, c_need_word, c_letter_back, c_shortened, c_turned, c_short, c_back, c_times, c__law_cell, c__law_mixed, c__law_letters, c__law_back, c__law_word, c__law_turned, c__law_taken_out, c__law_called, c__law_refused, c__law_is, o_is_word, o_need_word, o_letter_back, o_shortened, o_turned, o_short, o_back, o_times, o__law_cell, o__law_mixed, o__law_letters, o__law_back, o__law_word, o__law_turned, o__law_taken_out, o__law_called, o__law_refused, o__law_is, D01_G, D01_ge, D01_lvl, lookup_lit, String.reduceBEq, String.reduceEq, decide_true, decide_false, ofString_inj, bindR, List.zip, List.zipWith, List.zip_cons_cons, List.zip_nil_left, List.zip_nil_right, set_lit, if_true, if_false, ite_true, ite_false, Option.some.injEq, exists_eq_left', exists_eq_left, true_and, and_true, Option.isSome_some, Option.isSome_none, reduceCtorEq, or_true, true_or, or_false, false_or, List.isEmpty_nil, List.isEmpty_cons, beq_self_eq_true, Bool.and_true, Bool.true_and, List.length_cons, List.length_nil, Nat.reduceAdd, Nat.reduceLT, Nat.reduceLeDiff, Nat.reduceEqDiff, Nat.reduceBEq, decide_eq_true_eq, Bool.false_eq_true, Option.isNone_none, Bool.true_eq_false, ne_eq, not_true_eq_false, not_false_eq_true, true_implies, Prod.mk.injEq, and_self, Bool.or_false, Bool.or_true, Bool.false_or, Bool.true_or, List.cons.injEq, V.bool.injEq, V.int.injEq, retQ, V.typ.injEq, V.ref.injEq, V.str.injEq, and_assoc, exists_and_left, not_false_eq_true, Bool.not_eq_true, Bool.not_eq_false, cmpS, unS_not, unS_neg, add_int, sub_int, mul_int, div_int, mod_int, iter_S, rev_S, l14_one, s14_one, l14_other, s14_other, g14_need_word, g14_shortened]
  refine ⟨a, rfl, ?_⟩
  have hft : fit = 4096 := rfl
  have hsz : sizeLine = 16777216 := rfl
  rcases hh with ⟨u, v, rfl, rfl, hl, hu, hv, hQ⟩ | ⟨hb, hX⟩ | ⟨u, rfl, hl, hu, hb, hX⟩
  · exact .inl ⟨u, rfl, by omega, hu, trivial, _, rfl, .inl ⟨v, rfl, by omega, hv, trivial, add_S (by omega) ⟨u ++ v, rfl, by simpa using hl, hu.append hv, σ, .refl σ, hQ⟩⟩⟩
  · exact .inr ⟨hb, hX⟩
  · exact .inl ⟨u, rfl, hl, hu, trivial, _, rfl, .inr ⟨hb, hX⟩⟩
theorem b_cell : Body G w 17 ["_law_script", "_law_k"] 0 (t_cell G) := by
  rintro n b sc h args σ Q X ⟨k, rfl, hk, hG, hQ⟩
  cases (h.symm.trans rfl : some _ = some _)
  clear h
  refine ⟨rfl, ?_⟩
  simp only [wpSs_nil, wpSs_cons, wpS_Return, wpS_Pass, wpS_Expr, wpS_AssignN, wpS_If, wpS_For, wpS_Raise, wpS_Try, wpE_Constant, wpE_Name, wpE_BinOp, wpE_UnaryOp, wpE_BoolOp, wpE_Compare, wpE_IfExp, wpE_Tuple, wpE_List, wpE_Meth, wpE_Call, wpE_Slice, wpE_ItemN, wpE_ItemB, wpE_ItemK, wpE_ItemU, wpE_ItemC, wpE_CompN, wpE_Comp1, compK, wpL_nil, wpL_cons, wpO_none, wpO_some, wpB_one, wpB_cons, wpIf_nil, wpIf_cons, wpH, wpTry, notSet_N, notSet_C, notSet_K, notSet_S, notSet_B, notSet_L, notCompB_C, plain_nil, plain_N, plain_C, plain_K, plain_S, plain_B, plain_L, meth_N, meth_K, const_int, const_str, const_bool, const_none, raise_lit, headOf_range, headOf_rev, headOf_name, tgt_plain, tgt_range, tgt_rev, bind_cmp, bs_local, bs_cell, isHead_range, isHead_rev, ok_plain, ok_range, ok_rev, head_plain, head_range, nameS_cmp, ks_local, ks_cell, ks_free, ks_glob, cY, oY, cB, oB, ge_SMALL, ge_GREAT, ge_range, ge_reversed, ge_letter_back, ge__law_back, c_is_word, c_need_word, c_letter_back, c_shortened, c_turned, c_short, c_back, c_times, c__law_cell, c__law_mixed, c__law_letters, c__law_back, c__law_word, c__law_turned, c__law_taken_out, c__law_called, c__law_refused, c__law_is, o_is_word, o_need_word, o_letter_back, o_shortened, o_turned, o_short, o_back, o_times, o__law_cell, o__law_mixed, o__law_letters, o__law_back, o__law_word, o__law_turned, o__law_taken_out, o__law_called, o__law_refused, o__law_is, D01_G, D01_ge, D01_lvl, lookup_lit, String.reduceBEq, String.reduceEq, decide_true, decide_false, ofString_inj, bindR, List.zip, List.zipWith, List.zip_cons_cons, List.zip_nil_left, List.zip_nil_right, set_lit, if_true, if_false, ite_true, ite_false, Option.some.injEq, exists_eq_left', exists_eq_left, true_and, and_true, Option.isSome_some, Option.isSome_none, reduceCtorEq, or_true, true_or, or_false, false_or, List.isEmpty_nil, List.isEmpty_cons, beq_self_eq_true, Bool.and_true, Bool.true_and, List.length_cons, List.length_nil, Nat.reduceAdd, Nat.reduceLT, Nat.reduceLeDiff, Nat.reduceEqDiff, Nat.reduceBEq, decide_eq_true_eq, Bool.false_eq_true, Option.isNone_none, Bool.true_eq_false, ne_eq, not_true_eq_false, not_false_eq_true, true_implies, Prod.mk.injEq, and_self, Bool.or_false, Bool.or_true, Bool.false_or, Bool.true_or, List.cons.injEq, V.bool.injEq, V.int.injEq, retQ, V.typ.injEq, V.ref.injEq, V.str.injEq, and_assoc, exists_and_left, not_false_eq_true, Bool.not_eq_true, Bool.not_eq_false, cmpS, unS_not, unS_neg, add_int, sub_int, mul_int, div_int, mod_int, iter_S, rev_S, l17__law_script, s17__law_script, l17__law_k, s17__law_k, g17_len, callB, lenS, itemS]
  refine ⟨by omega, ?_⟩
  by_cases hlt : k < G.ns.length
  · rw [if_pos (by omega)]
    refine ⟨by omega, by omega, G.ns.getD k 0, ?_, σ, .refl σ, hQ⟩
    simp [hlt]
  · rw [if_neg (by omega)]
    have : G.ns.getD k 0 = 0 := by simp [hlt]
    rw [this] at hQ
    exact ⟨σ, .refl σ, hQ⟩
theorem b_mixed : Body G w 18 ["_law_cell_here", "_law_k"] 0 t_mixed := by
  rintro n b sc h args σ Q X ⟨c, k, rfl, hk, hQ⟩
  cases (h.symm.trans rfl : some _ = some _)
  clear h
  refine ⟨rfl, ?_⟩
  simp only [wpSs_nil, wpSs_cons, wpS_Return, wpS_Pass, wpS_Expr, wpS_AssignN, wpS_If, wpS_For, wpS_Raise, wpS_Try, wpE_Constant, wpE_Name, wpE_BinOp, wpE_UnaryOp, wpE_BoolOp, wpE_Compare, wpE_IfExp, wpE_Tuple, wpE_List, wpE_Meth, wpE_Call, wpE_Slice, wpE_ItemN, wpE_ItemB, wpE_ItemK, wpE_ItemU, wpE_ItemC, wpE_CompN, wpE_Comp1, compK, wpL_nil, wpL_cons, wpO_none, wpO_some, wpB_one, wpB_cons, wpIf_nil, wpIf_cons, wpH, wpTry, notSet_N, notSet_C, notSet_K, notSet_S, notSet_B, notSet_L, notCompB_C, plain_nil, plain_N, plain_C, plain_K, plain_S, plain_B, plain_L, meth_N, meth_K, const_int, const_str, const_bool, const_none, raise_lit, headOf_range, headOf_rev, headOf_name, tgt_plain, tgt_range, tgt_rev, bind_cmp, bs_local, bs_cell, isHead_range, isHead_rev, ok_plain, ok_range, ok_rev, head_plain, head_range, nameS_cmp, ks_local, ks_cell, ks_free, ks_glob, cY, oY, cB, oB, ge_SMALL, ge_GREAT, ge_range, ge_reversed, ge_letter_back, ge__law_back, c_is_word, c_need_word, c_letter_back, c_shortened, c_turned, c_short, c_back, c_times, c__law_cell, c__law_mixed, c__law_letters, c__law_back, c__law_word, c__law_turned, c__law_taken_out, c__law_called, c__law_refused, c__law_is, o_is_word, o_need_word, o_letter_back, o_shortened, o_turned, o_short, o_back, o_times, o__law_cell, o__law_mixed, o__law_letters, o__law_back, o__law_word, o__law_turned, o__law_taken_out, o__law_called, o__law_refused, o__law_is, D01_G, D01_ge, D01_lvl, lookup_lit, String.reduceBEq, String.reduceEq, decide_true, decide_false, ofString_inj, bindR, List.zip, List.zipWith, List.zip_cons_cons, List.zip_nil_left, List.zip_nil_right, set_lit, if_true, if_false, ite_true, ite_false, Option.some.injEq, exists_eq_left', exists_eq_left, true_and, and_true, Option.isSome_some, Option.isSome_none, reduceCtorEq, or_true, true_or, or_false, false_or, List.isEmpty_nil, List.isEmpty_cons, beq_self_eq_true, Bool.and_true, Bool.true_and, List.length_cons, List.length_nil, Nat.reduceAdd, Nat.reduceLT, Nat.reduceLeDiff, Nat.reduceEqDiff, Nat.reduceBEq, decide_eq_true_eq, Bool.false_eq_true, Option.isNone_none, Bool.true_eq_false, ne_eq, not_true_eq_false, not_false_eq_true, true_implies, Prod.mk.injEq, and_self, Bool.or_false, Bool.or_true, Bool.false_or, Bool.true_or, List.cons.injEq, V.bool.injEq, V.int.injEq, retQ, V.typ.injEq, V.ref.injEq, V.str.injEq, and_assoc, exists_and_left, not_false_eq_true, Bool.not_eq_true, Bool.not_eq_false, cmpS, unS_not, unS_neg, add_int, sub_int, mul_int, div_int, mod_int, iter_S, rev_S, l18__law_cell_here, s18__law_cell_here, l18__law_k, s18__law_k, l18__law_number, s18__law_number]
  have hft : fit = 4096 := rfl
  have hk1 : Builtin.Int.intBits (k : Int) ≤ 64 := intBits_le_64 (by omega) (by omega)
  refine ⟨by decide, .of_right hk1, .of_right hk1, .of_right hk1, .of_right (by decide), by decide, .of_right hk1, .of_right (intBits_le_64 (by omega) (by omega)), by decide, ?_⟩
  obtain ⟨m, hm, hlt⟩ := fm (((c.fmod 2147483647 + 7919 * ↑k * ↑k + 31 * ↑k) * 48271).fmod 2147483647 * (69621 + 2 * ↑k)) (n := 2147483629) (by omega)
  rw [show ((2147483629 : Int) = ((2147483629 : Nat) : Int)) from rfl, hm]
  exact ⟨σ, .refl σ, hQ m hlt⟩
theorem b_letters : Body G w 19 ["_law_cell_here"] 0 t_letters := by
  rintro n b sc h args σ Q X ⟨c, rfl, hQ⟩
  cases (h.symm.trans rfl : some _ = some _)
  clear h
  refine ⟨rfl, ?_⟩
  have hs : V.str (Str.ofString "abcdefghijklmnopqrstuvwxyz") = S (List.range' 97 26) := by rw [S]; congr 1
  simp only [wpSs_nil, wpSs_cons, wpS_Return, wpS_Pass, wpS_Expr, wpS_AssignN, wpS_If, wpS_For, wpS_Raise, wpS_Try, wpE_Constant, wpE_Name, wpE_BinOp, wpE_UnaryOp, wpE_BoolOp, wpE_Compare, wpE_IfExp, wpE_Tuple, wpE_List, wpE_Meth, wpE_Call, wpE_Slice, wpE_ItemN, wpE_ItemB, wpE_ItemK, wpE_ItemU, wpE_ItemC, wpE_CompN, wpE_Comp1, compK, wpL_nil, wpL_cons, wpO_none, wpO_some, wpB_one, wpB_cons, wpIf_nil, wpIf_cons, wpH, wpTry, notSet_N, notSet_C, notSet_K, notSet_S, notSet_B, notSet_L, notCompB_C, plain_nil, plain_N, plain_C, plain_K, plain_S, plain_B, plain_L, meth_N, meth_K, const_int, const_str, const_bool, const_none, raise_lit, headOf_range, headOf_rev, headOf_name, tgt_plain, tgt_range, tgt_rev, bind_cmp, bs_local, bs_cell, isHead_range, isHead_rev, ok_plain, ok_range, ok_rev, head_plain, head_range, nameS_cmp, ks_local, ks_cell, ks_free, ks_glob, cY, oY, cB, oB, ge_SMALL, ge_GREAT, ge_range, ge_reversed, ge_letter_back, ge__law_back, c_is_word, c_need_word, c_letter_back, c_shortened, c_turned, c_short, c_back, c_times, c__law_cell, c__law_mixed, c__law_letters, c__law_back, c__law_word, c__law_turned, c__law_taken_out, c__law_called, c__law_refused, c__law_is, o_is_word, o_need_word, o_letter_back, o_shortened, o_turned, o_short, o_back, o_times, o__law_cell, o__law_mixed, o__law_letters, o__law_back, o__law_word, o__law_turned, o__law_taken_out, o__law_called, o__law_refused, o__law_is, D01_G, D01_ge, D01_lvl, lookup_lit, String.reduceBEq, String.reduceEq, decide_true, decide_false, ofString_inj, bindR, List.zip, List.zipWith, List.zip_cons_cons, List.zip_nil_left, List.zip_nil_right, set_lit, if_true, if_false, ite_true, ite_false, Option.some.injEq, exists_eq_left', exists_eq_left, true_and, and_true, Option.isSome_some, Option.isSome_none, reduceCtorEq, or_true, true_or, or_false, false_or, List.isEmpty_nil, List.isEmpty_cons, beq_self_eq_true, Bool.and_true, Bool.true_and, List.length_cons, List.length_nil, Nat.reduceAdd, Nat.reduceLT, Nat.reduceLeDiff, Nat.reduceEqDiff, Nat.reduceBEq, decide_eq_true_eq, Bool.false_eq_true, Option.isNone_none, Bool.true_eq_false, ne_eq, not_true_eq_false, not_false_eq_true, true_implies, Prod.mk.injEq, and_self, Bool.or_false, Bool.or_true, Bool.false_or, Bool.true_or, List.cons.injEq, V.bool.injEq, V.int.injEq, retQ, V.typ.injEq, V.ref.injEq, V.str.injEq, and_assoc, exists_and_left, not_false_eq_true, Bool.not_eq_true, Bool.not_eq_false, cmpS, unS_not, unS_neg, add_int, sub_int, mul_int, div_int, mod_int, iter_S, rev_S, l19__law_cell_here, s19__law_cell_here, l19__law_some, s19__law_some, l19__law_step, s19__law_step, l19__law_many, s19__law_many, g19_range, k19_range, hs]
  refine ⟨by decide, fun a ha => ⟨by decide, by decide, by decide, ?_⟩⟩
  obtain ⟨m, hm, hlt⟩ := fm (c.fdiv 26) (n := 8) (by omega)
  rw [show ((8 : Int) = ((8 : Nat) : Int)) from rfl, hm]
  obtain ⟨st, hst⟩ : ∃ st : Int, [V.int 1, V.int 3, V.int 5, V.int 7, V.int 9, V.int 11, V.int 15, V.int 25][m]? = some (.int st) := by
    match m, hlt with
    | 0, _ => exact ⟨_, rfl⟩
    | 1, _ => exact ⟨_, rfl⟩
    | 2, _ => exact ⟨_, rfl⟩
    | 3, _ => exact ⟨_, rfl⟩
    | 4, _ => exact ⟨_, rfl⟩
    | 5, _ => exact ⟨_, rfl⟩
    | 6, _ => exact ⟨_, rfl⟩
    | 7, _ => exact ⟨_, rfl⟩
  refine item_list (Store.set_same ..) hst (by decide) ?_
  refine ⟨by decide, by decide, by decide, by decide, fun a' ha' => ⟨by decide, by decide, by decide, ?_⟩⟩
  obtain ⟨m', hm', hlt'⟩ := fm (c.fdiv 208) (n := 8) (by omega)
  obtain ⟨q, hq, hql⟩ := fm (c.fdiv 1664) (n := 5) (by omega)
  rw [hm', show ((5 : Int) = ((5 : Nat) : Int)) from rfl, hq]
  obtain ⟨mn, hmn, h1, h8⟩ : ∃ mn : Nat, [V.int 2, V.int 3, V.int 2, V.int 1, V.int (4 + (q : Int)), V.int 3, V.int 2, V.int 8][m']? = some (.int mn) ∧ 1 ≤ mn ∧ mn ≤ 8 := by
    match m', hlt' with
    | 0, _ => exact ⟨2, rfl, by omega, by omega⟩
    | 1, _ => exact ⟨3, rfl, by omega, by omega⟩
    | 2, _ => exact ⟨2, rfl, by omega, by omega⟩
    | 3, _ => exact ⟨1, rfl, by omega, by omega⟩
    | 4, _ => exact ⟨4 + q, rfl, by omega, by omega⟩
    | 5, _ => exact ⟨3, rfl, by omega, by omega⟩
    | 6, _ => exact ⟨2, rfl, by omega, by omega⟩
    | 7, _ => exact ⟨8, rfl, by omega, by omega⟩
  refine item_list (Store.set_same ..) hmn (by simp; decide) ?_
  refine ⟨compOk_of (by kernel_rfl), mn, rfl, by omega, by omega, by simp; omega, ?_⟩
  have cl : ∀ k : Nat, ∃ x : Nat, 97 + ((c + (k : Int) * st).fmod 26).toNat = x ∧ smL x = true ∧ ((List.range' 97 26)[((c + (k : Int) * st).fmod 26).toNat]?) = some x ∧ ((((c + (k : Int) * st).fmod 26).toNat : Nat) : Int) = (c + (k : Int) * st).fmod 26 := fun k => by
    obtain ⟨z, hz, hzl⟩ := fm (c + (k : Int) * st) (n := 26) (by omega)
    rw [show ((26 : Int) = ((26 : Nat) : Int)) from rfl, hz]
    refine ⟨_, rfl, by simp [smL]; omega, by rw [Int.toNat_natCast, List.getElem?_range' hzl]; simp, by omega⟩
  refine compL_map (fun ρ => ρ "_law_some" = some (S (List.range' 97 26)) ∧ ρ "_law_cell_here" = some (.int c) ∧ ρ "_law_step" = some (.int st)) _ (fun k : Nat => S [97 + ((c + (k : Int) * st).fmod 26).toNat]) trivial ?_ ?_ ?_
  · simp [lookup_lit, Loc.set, ofString_inj]
  · rintro k hk ρ kk ⟨hr1, hr2, hr3⟩ hkk
    have hk8 : k < 8 := by have := List.mem_range.mp hk; omega
    simp only [hr1, hr2, hr3, wpSs_nil, wpSs_cons, wpS_Return, wpS_Pass, wpS_Expr, wpS_AssignN, wpS_If, wpS_For, wpS_Raise, wpS_Try, wpE_Constant, wpE_Name, wpE_BinOp, wpE_UnaryOp, wpE_BoolOp, wpE_Compare, wpE_IfExp, wpE_Tuple, wpE_List, wpE_Meth, wpE_Call, wpE_Slice, wpE_ItemN, wpE_ItemB, wpE_ItemK, wpE_ItemU, wpE_ItemC, wpE_CompN, wpE_Comp1, compK, wpL_nil, wpL_cons, wpO_none, wpO_some, wpB_one, wpB_cons, wpIf_nil, wpIf_cons, wpH, wpTry, notSet_N, notSet_C, notSet_K, notSet_S, notSet_B, notSet_L, notCompB_C, plain_nil, plain_N, plain_C, plain_K, plain_S, plain_B, plain_L, meth_N, meth_K, const_int, const_str, const_bool, const_none, raise_lit, headOf_range, headOf_rev, headOf_name, tgt_plain, tgt_range, tgt_rev, bind_cmp, bs_local, bs_cell, isHead_range, isHead_rev, ok_plain, ok_range, ok_rev, head_plain, head_range, nameS_cmp, ks_local, ks_cell, ks_free, ks_glob, cY, oY, cB, oB, ge_SMALL, ge_GREAT, ge_range, ge_reversed, ge_letter_back, ge__law_back, c_is_word, c_need_word, c_letter_back, c_shortened, c_turned, c_short, c_back, c_times, c__law_cell, c__law_mixed, c__law_letters, c__law_back, c__law_word, c__law_turned, c__law_taken_out, c__law_called, c__law_refused, c__law_is, o_is_word, o_need_word, o_letter_back, o_shortened, o_turned, o_short, o_back, o_times, o__law_cell, o__law_mixed, o__law_letters, o__law_back, o__law_word, o__law_turned, o__law_taken_out, o__law_called, o__law_refused, o__law_is, D01_G, D01_ge, D01_lvl, lookup_lit, String.reduceBEq, String.reduceEq, decide_true, decide_false, ofString_inj, bindR, List.zip, List.zipWith, List.zip_cons_cons, List.zip_nil_left, List.zip_nil_right, set_lit, if_true, if_false, ite_true, ite_false, Option.some.injEq, exists_eq_left', exists_eq_left, true_and, and_true, Option.isSome_some, Option.isSome_none, reduceCtorEq, or_true, true_or, or_false, false_or, List.isEmpty_nil, List.isEmpty_cons, beq_self_eq_true, Bool.and_true, Bool.true_and, List.length_cons, List.length_nil, Nat.reduceAdd, Nat.reduceLT, Nat.reduceLeDiff, Nat.reduceEqDiff, Nat.reduceBEq, decide_eq_true_eq, Bool.false_eq_true, Option.isNone_none, Bool.true_eq_false, ne_eq, not_true_eq_false, not_false_eq_true, true_implies, Prod.mk.injEq, and_self, Bool.or_false, Bool.or_true, Bool.false_or, Bool.true_or, List.cons.injEq, V.bool.injEq, V.int.injEq, retQ, V.typ.injEq, V.ref.injEq, V.str.injEq, and_assoc, exists_and_left, not_false_eq_true, Bool.not_eq_true, Bool.not_eq_false, cmpS, unS_not, unS_neg, add_int, sub_int, mul_int, div_int, mod_int, iter_S, rev_S, l19__law_cell_here, s19__law_cell_here, l19__law_some, s19__law_some, l19__law_step, s19__law_step, l19__law_many, s19__law_many, g19_range, k19_range]
    refine ⟨.of_left (intBits_le_64 (by omega) (by omega)), by decide, ?_⟩
    obtain ⟨x, hx, hsx, hg, hcast⟩ := cl k
    rw [← hcast]
    refine item_S hg (by decide) ?_
    have := hkk (ρ.set "_law_k" (.int k)) (by simp [Loc.set, ofString_inj, hr1, hr2, hr3])
    rw [hx] at this
    exact this
  · intro r hr
    have S1 : SubS σ ((σ.set a (Cell.list [V.int 1, V.int 3, V.int 5, V.int 7, V.int 9, V.int 11, V.int 15, V.int 25])).set a' (Cell.list [V.int 2, V.int 3, V.int 2, V.int 1, V.int (4 + (q : Int)), V.int 3, V.int 2, V.int 8])) := ((SubS.refl σ).set ha).set ((SubS.refl σ).set ha |>.none ha')
    have := hQ ((List.range mn).map fun k : Nat => 97 + ((c + (k : Int) * st).fmod 26).toNat) (by simp; omega) (by simp; omega) (by
      intro x hx
      obtain ⟨k, _, rfl⟩ := List.mem_map.mp hx
      obtain ⟨x, hx, hsx, _⟩ := cl k
      rw [hx]; exact hsx) r (S1.none hr)
    refine ⟨_, ?_, this⟩
    rw [List.map_map]
    simp only [Int.toNat_natCast]
    exact S1.set2
theorem b_lback : Body G w 20 ["_law_letter"] 0 t_letter := by
  rintro n b sc h args σ Q X ⟨c, rfl, hc, hQ⟩
  cases (h.symm.trans rfl : some _ = some _)
  clear h
  refine ⟨rfl, ?_⟩
  have hc' := isL_iff.mp hc
  have key : ∀ c, c < 123 → isL c = true → Txt.lower ⟨[c].toArray⟩ = ⟨[if smL c then c else inv c].toArray⟩ ∧ Txt.upper ⟨[c].toArray⟩ = ⟨[if smL c then inv c else c].toArray⟩ := by decide +kernel
  obtain ⟨k1, k2⟩ := key c (by omega) hc
  simp only [wpSs_nil, wpSs_cons, wpS_Return, wpS_Pass, wpS_Expr, wpS_AssignN, wpS_If, wpS_For, wpS_Raise, wpS_Try, wpE_Constant, wpE_Name, wpE_BinOp, wpE_UnaryOp, wpE_BoolOp, wpE_Compare, wpE_IfExp, wpE_Tuple, wpE_List, wpE_Meth, wpE_Call, wpE_Slice, wpE_ItemN, wpE_ItemB, wpE_ItemK, wpE_ItemU, wpE_ItemC, wpE_CompN, wpE_Comp1, compK, wpL_nil, wpL_cons, wpO_none, wpO_some, wpB_one, wpB_cons, wpIf_nil, wpIf_cons, wpH, wpTry, notSet_N, notSet_C, notSet_K, notSet_S, notSet_B, notSet_L, notCompB_C, plain_nil, plain_N, plain_C, plain_K, plain_S, plain_B, plain_L, meth_N, meth_K, const_int, const_str, const_bool, const_none, raise_lit, headOf_range, headOf_rev, headOf_name, tgt_plain, tgt_range, tgt_rev, bind_cmp, bs_local, bs_cell, isHead_range, isHead_rev, ok_plain, ok_range, ok_rev, head_plain, head_range, nameS_cmp, ks_local, ks_cell, ks_free, ks_glob, cY, oY, cB, oB, ge_SMALL, ge_GREAT, ge_range, ge_reversed, ge_letter_back, ge__law_back, c_is_word, c_need_word, c_letter_back, c_shortened, c_turned, c_short, c_back, c_times, c__law_cell, c__law_mixed, c__law_letters, c__law_back, c__law_word, c__law_turned, c__law_taken_out, c__law_called, c__law_refused, c__law_is, o_is_word, o_need_word, o_letter_back, o_shortened, o_turned, o_short, o_back, o_times, o__law_cell, o__law_mixed, o__law_letters, o__law_back, o__law_word, o__law_turned, o__law_taken_out, o__law_called, o__law_refused, o__law_is, D01_G, D01_ge, D01_lvl, lookup_lit, String.reduceBEq, String.reduceEq, decide_true, decide_false, ofString_inj, bindR, List.zip, List.zipWith, List.zip_cons_cons, List.zip_nil_left, List.zip_nil_right, set_lit, if_true, if_false, ite_true, ite_false, Option.some.injEq, exists_eq_left', exists_eq_left, true_and, and_true, Option.isSome_some, Option.isSome_none, reduceCtorEq, or_true, true_or, or_false, false_or, List.isEmpty_nil, List.isEmpty_cons, beq_self_eq_true, Bool.and_true, Bool.true_and, List.length_cons, List.length_nil, Nat.reduceAdd, Nat.reduceLT, Nat.reduceLeDiff, Nat.reduceEqDiff, Nat.reduceBEq, decide_eq_true_eq, Bool.false_eq_true, Option.isNone_none, Bool.true_eq_false, ne_eq, not_true_eq_false, not_false_eq_true, true_implies, Prod.mk.injEq, and_self, Bool.or_false, Bool.or_true, Bool.false_or, Bool.true_or, List.cons.injEq, V.bool.injEq, V.int.injEq, retQ, V.typ.injEq, V.ref.injEq, V.str.injEq, and_assoc, exists_and_left, not_false_eq_true, Bool.not_eq_true, Bool.not_eq_false, cmpS, unS_not, unS_neg, add_int, sub_int, mul_int, div_int, mod_int, iter_S, rev_S, l20__law_letter, s20__law_letter]
  have hL : Ls [c] := fun y hy => by rw [List.mem_singleton.mp hy]; exact hc
  have hL' : Ls [if smL c then c else inv c] := fun y hy => by
    rw [List.mem_singleton.mp hy]
    split
    · exact hc
    · exact isL_inv hc
  refine ⟨rfl, lower_S (by simp) ?_⟩
  rw [k1]
  refine eq_S hL hL' ?_
  by_cases hs : smL c = true
  · rw [if_pos hs]
    have e : decide ([c] = [c]) = true := decide_eq_true rfl
    rw [e]
    refine ⟨rfl, upper_S (by simp) ?_⟩
    rw [k2, if_pos hs]
    exact ⟨σ, .refl σ, hQ⟩
  · have hne : c ≠ inv c := by
      simp only [inv, hs]; simp
    rw [if_neg hs]
    have e : decide ([c] = [inv c]) = false := decide_eq_false fun h => hne (List.cons.inj h).1
    rw [e]
    refine ⟨rfl, lower_S (by simp) ?_⟩
    rw [k1, if_neg hs]
    exact ⟨σ, .refl σ, hQ⟩

theorem up_sm {c : Nat} (h : smL c = true) : Txt.upper ⟨[c].toArray⟩ = ⟨[inv c].toArray⟩ := by
  have key : ∀ c, c < 123 → smL c = true → Txt.upper ⟨[c].toArray⟩ = ⟨[inv c].toArray⟩ := by decide +kernel
  have h1 := h
  simp only [smL, Bool.and_eq_true, decide_eq_true_eq] at h1
  exact key c (by omega) h
theorem smL_isL {c : Nat} (h : smL c = true) : isL c = true := by simp [isL, h]

theorem b_word : Body G w 21 ["_law_cell_here", "_law_letters_here", "_law_size"] 1 t_word := by
  rintro n b sc h args σ Q X ⟨c, r, sz, ls, rfl, hsz, hr, h1, h8, hls, hQ⟩
  cases (h.symm.trans rfl : some _ = some _)
  clear h
  refine ⟨rfl, ?_⟩
  simp only [wpSs_nil, wpSs_cons, wpS_Return, wpS_Pass, wpS_Expr, wpS_AssignN, wpS_If, wpS_For, wpS_Raise, wpS_Try, wpE_Constant, wpE_Name, wpE_BinOp, wpE_UnaryOp, wpE_BoolOp, wpE_Compare, wpE_IfExp, wpE_Tuple, wpE_List, wpE_Meth, wpE_Call, wpE_Slice, wpE_ItemN, wpE_ItemB, wpE_ItemK, wpE_ItemU, wpE_ItemC, wpE_CompN, wpE_Comp1, compK, wpL_nil, wpL_cons, wpO_none, wpO_some, wpB_one, wpB_cons, wpIf_nil, wpIf_cons, wpH, wpTry, notSet_N, notSet_C, notSet_K, notSet_S, notSet_B, notSet_L, notCompB_C, plain_nil, plain_N, plain_C, plain_K, plain_S, plain_B, plain_L, meth_N, meth_K, const_int, const_str, const_bool, const_none, raise_lit, headOf_range, headOf_rev, headOf_name, tgt_plain, tgt_range, tgt_rev, bind_cmp, bs_local, bs_cell, isHead_range, isHead_rev, ok_plain, ok_range, ok_rev, head_plain, head_range, nameS_cmp, ks_local, ks_cell, ks_free, ks_glob, cY, oY, cB, oB, ge_SMALL, ge_GREAT, ge_range, ge_reversed, ge_letter_back, ge__law_back, c_is_word, c_need_word, c_letter_back, c_shortened, c_turned, c_short, c_back, c_times, c__law_cell, c__law_mixed, c__law_letters, c__law_back, c__law_word, c__law_turned, c__law_taken_out, c__law_called, c__law_refused, c__law_is, o_is_word, o_need_word, o_letter_back, o_shortened, o_turned, o_short, o_back, o_times, o__law_cell, o__law_mixed, o__law_letters, o__law_back, o__law_word, o__law_turned, o__law_taken_out, o__law_called, o__law_refused, o__law_is, D01_G, D01_ge, D01_lvl, lookup_lit, String.reduceBEq, String.reduceEq, decide_true, decide_false, ofString_inj, bindR, List.zip, List.zipWith, List.zip_cons_cons, List.zip_nil_left, List.zip_nil_right, set_lit, if_true, if_false, ite_true, ite_false, Option.some.injEq, exists_eq_left', exists_eq_left, true_and, and_true, Option.isSome_some, Option.isSome_none, reduceCtorEq, or_true, true_or, or_false, false_or, List.isEmpty_nil, List.isEmpty_cons, beq_self_eq_true, Bool.and_true, Bool.true_and, List.length_cons, List.length_nil, Nat.reduceAdd, Nat.reduceLT, Nat.reduceLeDiff, Nat.reduceEqDiff, Nat.reduceBEq, decide_eq_true_eq, Bool.false_eq_true, Option.isNone_none, Bool.true_eq_false, ne_eq, not_true_eq_false, not_false_eq_true, true_implies, Prod.mk.injEq, and_self, Bool.or_false, Bool.or_true, Bool.false_or, Bool.true_or, List.cons.injEq, V.bool.injEq, V.int.injEq, retQ, V.typ.injEq, V.ref.injEq, V.str.injEq, and_assoc, exists_and_left, not_false_eq_true, Bool.not_eq_true, Bool.not_eq_false, cmpS, unS_not, unS_neg, add_int, sub_int, mul_int, div_int, mod_int, iter_S, rev_S, l21__law_cell_here, s21__law_cell_here, l21__law_letters_here, s21__law_letters_here, l21__law_size, s21__law_size, l21__law_word_here, s21__law_word_here, l21__law_k, s21__law_k, l21__law_number, s21__law_number, l21__law_letter, s21__law_letter, g21_range, k21_range, g21__law_mixed, g21_len, nil_S]
  refine ⟨by omega, by omega, ?_⟩
  have hz : sizeLine = 16777216 := rfl
  refine forL_ind (fun xs ρ τ => ∃ (l v : List Nat), xs = l.map (fun i : Nat => V.int i) ∧ (∀ k ∈ l, k < sz) ∧ ρ "_law_word_here" = some (S v) ∧ ρ "_law_cell_here" = some (.int c) ∧ ρ "_law_letters_here" = some (.ref r) ∧ Ls v ∧ v.length + l.length = sz ∧ SubS σ τ) (fun _ _ _ _ => trivial) ?_ ?_ ?_
  · rintro ρ τ ⟨l, v, hv, _, hw, _, _, hL, hln, hsub⟩
    obtain rfl := List.map_eq_nil_iff.mp hv.symm
    exact ⟨_, hw, σ, hsub, hQ v hL (by simpa using hln)⟩
  · rintro x xs ρ τ K ⟨l, v, hv, hk, hw, hcc, hll, hL, hln, hsub⟩ hn _ _ _
    cases l with
    | nil => cases hv
    | cons k l =>
      rw [List.map_cons, List.cons.injEq] at hv
      obtain ⟨rfl, rfl⟩ := hv
      have hkk := hk k (.head _)
      simp only [hw, hcc, hll, Option.some.injEq, exists_eq_left']
      refine ⟨c, k, rfl, by unfold fit; omega, fun m hm => ?_⟩
      have hr' := hsub _ _ hr
      refine divS (n := 7) (by omega) (by omega) (len_list hr' (by simp; omega) (modS (by simp; omega) ?_))
      rw [List.length_map]
      have hj : m / 7 % ls.length < ls.length := Nat.mod_lt _ (by omega)
      have hx : smL (ls[m / 7 % ls.length]) = true := hls _ (List.getElem_mem hj)
      refine item_list hr' (v := S [ls[m / 7 % ls.length]]) (by simp [hj]) (by simp; omega) ⟨rfl, ?_⟩
      refine upper_S (by simp) ?_
      rw [up_sm hx]
      refine ⟨by omega, fun a ha => ?_⟩
      refine divS (n := 16) (by omega) (by omega) (modS (n := 2) (by omega) ?_)
      have hb : m / 7 / 16 % 2 < 2 := Nat.mod_lt _ (by omega)
      obtain ⟨y, hy, hyl⟩ : ∃ y, [S [ls[m / 7 % ls.length]], S [inv ls[m / 7 % ls.length]]][m / 7 / 16 % 2]? = some (S [y]) ∧ isL y = true := by
        match m / 7 / 16 % 2, hb with
        | 0, _ => exact ⟨_, rfl, smL_isL hx⟩
        | 1, _ => exact ⟨_, rfl, isL_inv (smL_isL hx)⟩
      refine item_list (Store.set_same ..) hy (by simp; omega) ?_
      refine add_S (by simp at hln ⊢; omega) (hn _ _ ⟨l, v ++ [y], rfl, fun k hk' => hk k (.tail _ hk'), by simp [Loc.set], by simp [Loc.set, ofString_inj, hcc], by simp [Loc.set, ofString_inj, hll], hL.append fun z hz => by rw [List.mem_singleton.mp hz]; exact hyl, by simp at hln ⊢; omega, hsub.set (hsub.none ha)⟩)
  · exact ⟨List.range sz, [], by simp, fun k hk => List.mem_range.mp hk, by simp [Loc.set], by simp [Loc.set, ofString_inj], by simp [Loc.set, ofString_inj], Ls.nil, by simp, .refl σ⟩
theorem b_taken : Body G w 24 ["_law_word_here", "_law_cell_here"] 1 t_taken := by
  rintro n b sc h args σ Q X ⟨u, c, rfl, hl, hu, hQ⟩
  cases (h.symm.trans rfl : some _ = some _)
  clear h
  refine ⟨rfl, ?_⟩
  simp only [wpSs_nil, wpSs_cons, wpS_Return, wpS_Pass, wpS_Expr, wpS_AssignN, wpS_If, wpS_For, wpS_Raise, wpS_Try, wpE_Constant, wpE_Name, wpE_BinOp, wpE_UnaryOp, wpE_BoolOp, wpE_Compare, wpE_IfExp, wpE_Tuple, wpE_List, wpE_Meth, wpE_Call, wpE_Slice, wpE_ItemN, wpE_ItemB, wpE_ItemK, wpE_ItemU, wpE_ItemC, wpE_CompN, wpE_Comp1, compK, wpL_nil, wpL_cons, wpO_none, wpO_some, wpB_one, wpB_cons, wpIf_nil, wpIf_cons, wpH, wpTry, notSet_N, notSet_C, notSet_K, notSet_S, notSet_B, notSet_L, notCompB_C, plain_nil, plain_N, plain_C, plain_K, plain_S, plain_B, plain_L, meth_N, meth_K, const_int, const_str, const_bool, const_none, raise_lit, headOf_range, headOf_rev, headOf_name, tgt_plain, tgt_range, tgt_rev, bind_cmp, bs_local, bs_cell, isHead_range, isHead_rev, ok_plain, ok_range, ok_rev, head_plain, head_range, nameS_cmp, ks_local, ks_cell, ks_free, ks_glob, cY, oY, cB, oB, ge_SMALL, ge_GREAT, ge_range, ge_reversed, ge_letter_back, ge__law_back, c_is_word, c_need_word, c_letter_back, c_shortened, c_turned, c_short, c_back, c_times, c__law_cell, c__law_mixed, c__law_letters, c__law_back, c__law_word, c__law_turned, c__law_taken_out, c__law_called, c__law_refused, c__law_is, o_is_word, o_need_word, o_letter_back, o_shortened, o_turned, o_short, o_back, o_times, o__law_cell, o__law_mixed, o__law_letters, o__law_back, o__law_word, o__law_turned, o__law_taken_out, o__law_called, o__law_refused, o__law_is, D01_G, D01_ge, D01_lvl, lookup_lit, String.reduceBEq, String.reduceEq, decide_true, decide_false, ofString_inj, bindR, List.zip, List.zipWith, List.zip_cons_cons, List.zip_nil_left, List.zip_nil_right, set_lit, if_true, if_false, ite_true, ite_false, Option.some.injEq, exists_eq_left', exists_eq_left, true_and, and_true, Option.isSome_some, Option.isSome_none, reduceCtorEq, or_true, true_or, or_false, false_or, List.isEmpty_nil, List.isEmpty_cons, beq_self_eq_true, Bool.and_true, Bool.true_and, List.length_cons, List.length_nil, Nat.reduceAdd, Nat.reduceLT, Nat.reduceLeDiff, Nat.reduceEqDiff, Nat.reduceBEq, decide_eq_true_eq, Bool.false_eq_true, Option.isNone_none, Bool.true_eq_false, ne_eq, not_true_eq_false, not_false_eq_true, true_implies, Prod.mk.injEq, and_self, Bool.or_false, Bool.or_true, Bool.false_or, Bool.true_or, List.cons.injEq, V.bool.injEq, V.int.injEq, retQ, V.typ.injEq, V.ref.injEq, V.str.injEq, and_assoc, exists_and_left, not_false_eq_true, Bool.not_eq_true, Bool.not_eq_false, cmpS, unS_not, unS_neg, add_int, sub_int, mul_int, div_int, mod_int, iter_S, rev_S, l24__law_word_here, s24__law_word_here, l24__law_cell_here, s24__law_cell_here, l24__law_turn, s24__law_turn, l24__law_places, s24__law_places, l24__law_at, s24__law_at, g24_range, k24_range, g24_len, g24__law_mixed]
  refine len_S (by omega) ?_
  refine ⟨u.length, rfl, by omega, by omega, ?_⟩
  have hz : sizeLine = 16777216 := rfl
  refine forL_ind (fun xs ρ τ => ∃ (l v : List Nat), xs = l.map (fun i : Nat => V.int i) ∧ (∀ k ∈ l, k < 1000) ∧ ρ "_law_word_here" = some (S v) ∧ ρ "_law_cell_here" = some (.int c) ∧ Ls v ∧ v.length ≤ 1000 ∧ red v = red u ∧ (NoAdj v ∨ v.length ≤ 2 * l.length) ∧ SubS σ τ) (fun _ _ _ _ => trivial) ?_ ?_ ?_
  · rintro ρ τ ⟨l, v, hv, _, hw, _, hL, hln, hred, hna, hsub⟩
    obtain rfl := List.map_eq_nil_iff.mp hv.symm
    have hna : NoAdj v := by
      rcases hna with h | h
      · exact h
      · have : v = [] := List.eq_nil_of_length_eq_zero (by simpa using h)
        subst this; intro k a h; simp at h
    rw [red_noAdj hL hna] at hred
    rw [hred] at hw
    exact ⟨_, hw, σ, hsub, hQ⟩
  · rintro x xs ρ τ K ⟨l, v, hv, hk, hw, hcc, hL, hln, hred, hna, hsub⟩ hn _ _ _
    cases l with
    | nil => cases hv
    | cons k0 l =>
      rw [List.map_cons, List.cons.injEq] at hv
      obtain ⟨rfl, rfl⟩ := hv
      have hkk := hk k0 (.head _)
      simp only [hw, hcc, Option.some.injEq, exists_eq_left']
      refine ⟨compOk_of (by kernel_rfl), len_S (by omega) ?_⟩
      rw [sub_int]
      refine ⟨_, rfl, by omega, by omega, by simp; omega, ?_⟩
      have htn : ((v.length : Int) - 1).toNat = v.length - 1 := by omega
      rw [htn]
      refine compL_filter (fun ρ' => ρ' "_law_word_here" = some (S v)) _ (fun k : Nat => V.int k) (fun k => decide (v[k + 1]? = (v[k]?).map inv)) trivial ?_ ?_ ?_
      · simp [lookup_lit, ofString_inj, Loc.set, hw]
      · intro k hk ρ' kk hr h1 h2
        have hk := List.mem_range.mp hk
        have hk0 : k < v.length := by omega
        have hk1 : k + 1 < v.length := by omega
        simp only [wpSs_nil, wpSs_cons, wpS_Return, wpS_Pass, wpS_Expr, wpS_AssignN, wpS_If, wpS_For, wpS_Raise, wpS_Try, wpE_Constant, wpE_Name, wpE_BinOp, wpE_UnaryOp, wpE_BoolOp, wpE_Compare, wpE_IfExp, wpE_Tuple, wpE_List, wpE_Meth, wpE_Call, wpE_Slice, wpE_ItemN, wpE_ItemB, wpE_ItemK, wpE_ItemU, wpE_ItemC, wpE_CompN, wpE_Comp1, compK, wpL_nil, wpL_cons, wpO_none, wpO_some, wpB_one, wpB_cons, wpIf_nil, wpIf_cons, wpH, wpTry, notSet_N, notSet_C, notSet_K, notSet_S, notSet_B, notSet_L, notCompB_C, plain_nil, plain_N, plain_C, plain_K, plain_S, plain_B, plain_L, meth_N, meth_K, const_int, const_str, const_bool, const_none, raise_lit, headOf_range, headOf_rev, headOf_name, tgt_plain, tgt_range, tgt_rev, bind_cmp, bs_local, bs_cell, isHead_range, isHead_rev, ok_plain, ok_range, ok_rev, head_plain, head_range, nameS_cmp, ks_local, ks_cell, ks_free, ks_glob, cY, oY, cB, oB, ge_SMALL, ge_GREAT, ge_range, ge_reversed, ge_letter_back, ge__law_back, c_is_word, c_need_word, c_letter_back, c_shortened, c_turned, c_short, c_back, c_times, c__law_cell, c__law_mixed, c__law_letters, c__law_back, c__law_word, c__law_turned, c__law_taken_out, c__law_called, c__law_refused, c__law_is, o_is_word, o_need_word, o_letter_back, o_shortened, o_turned, o_short, o_back, o_times, o__law_cell, o__law_mixed, o__law_letters, o__law_back, o__law_word, o__law_turned, o__law_taken_out, o__law_called, o__law_refused, o__law_is, D01_G, D01_ge, D01_lvl, lookup_lit, String.reduceBEq, String.reduceEq, decide_true, decide_false, ofString_inj, bindR, List.zip, List.zipWith, List.zip_cons_cons, List.zip_nil_left, List.zip_nil_right, set_lit, if_true, if_false, ite_true, ite_false, Option.some.injEq, exists_eq_left', exists_eq_left, true_and, and_true, Option.isSome_some, Option.isSome_none, reduceCtorEq, or_true, true_or, or_false, false_or, List.isEmpty_nil, List.isEmpty_cons, beq_self_eq_true, Bool.and_true, Bool.true_and, List.length_cons, List.length_nil, Nat.reduceAdd, Nat.reduceLT, Nat.reduceLeDiff, Nat.reduceEqDiff, Nat.reduceBEq, decide_eq_true_eq, Bool.false_eq_true, Option.isNone_none, Bool.true_eq_false, ne_eq, not_true_eq_false, not_false_eq_true, true_implies, Prod.mk.injEq, and_self, Bool.or_false, Bool.or_true, Bool.false_or, Bool.true_or, List.cons.injEq, V.bool.injEq, V.int.injEq, retQ, V.typ.injEq, V.ref.injEq, V.str.injEq, and_assoc, exists_and_left, not_false_eq_true, Bool.not_eq_true, Bool.not_eq_false, cmpS, unS_not, unS_neg, add_int, sub_int, mul_int, div_int, mod_int, iter_S, rev_S, l24__law_word_here, s24__law_word_here, l24__law_cell_here, s24__law_cell_here, l24__law_turn, s24__law_turn, l24__law_places, s24__law_places, l24__law_at, s24__law_at, g24_range, k24_range, g24_len, g24__law_mixed, hr]
        refine item_S (k := k + 1) (c := v[k + 1]) (by simp [hk1]) (by omega) (item_S (k := k) (c := v[k]) (by simp [hk0]) (by omega) ⟨v[k], rfl, hL _ (List.getElem_mem hk0), ?_⟩)
        refine eq_S (fun z hz => by rw [List.mem_singleton.mp hz]; exact hL _ (List.getElem_mem hk1)) (fun z hz => by rw [List.mem_singleton.mp hz]; exact isL_inv (hL _ (List.getElem_mem hk0))) ?_
        have e : (decide (v[k + 1]? = (v[k]?).map inv)) = decide ([v[k + 1]] = [inv v[k]]) := by simp [hk0, hk1]
        rw [e] at h1 h2
        by_cases hd : decide ([v[k + 1]] = [inv v[k]]) = true
        · rw [if_pos hd]; exact h1 _ (by simp [Loc.set, ofString_inj, hr]) hd
        · rw [if_neg hd]; exact h2 _ (by simp [Loc.set, ofString_inj, hr]) (by simpa using hd)
      · intro a ha
        refine ⟨by omega, fun a2 ha2 => ?_⟩
        have hne : a ≠ a2 := fun e => by subst e; rw [Store.set_same] at ha2; cases ha2
        have hs2 : SubS σ ((τ.set a (Cell.list (List.map (fun k : Nat => V.int k) (List.filter (fun k => decide (v[k + 1]? = (v[k]?).map inv)) (List.range (v.length - 1)))))).set a2 (Cell.list [])) := (hsub.set (hsub.none ha)).set ((hsub.set (hsub.none ha)).none ha2)
        revert hs2
        generalize hpl : List.filter (fun k => decide (v[k + 1]? = (v[k]?).map inv)) (List.range (v.length - 1)) = pl
        intro hs2
        have hmem : ∀ k ∈ pl, k + 1 < v.length ∧ v[k + 1]? = (v[k]?).map inv := fun k hk => by
          rw [← hpl] at hk
          have h := List.mem_filter.mp hk
          have := List.mem_range.mp h.1
          exact ⟨by omega, by simpa using h.2⟩
        have hpln : pl.length ≤ 1000 := by
          rw [← hpl]; refine Nat.le_trans (List.length_filter_le ..) ?_; simp; omega
        have hat : ((τ.set a (Cell.list (List.map (fun k : Nat => V.int k) pl))).set a2 (Cell.list [])) a = some (Cell.list (List.map (fun k : Nat => V.int k) pl)) := by
          rw [Store.set_ne hne, Store.set_same]
        refine .inr (.inr ⟨a, a2, _, [], rfl, rfl, hat, Store.set_same .., .inr (.inr (.inr rfl)), ?_⟩)
        by_cases hemp : pl = []
        · have : eqBL (List.map (fun k : Nat => V.int k) pl) [] = true := by simp [eqBL, hemp]
          rw [this]
          refine hn _ _ ⟨l, v, rfl, fun k hk' => hk k (.tail _ hk'), by simp [Loc.set, ofString_inj, hw], by simp [Loc.set, ofString_inj, hcc], hL, hln, hred, .inl ?_, hs2⟩
          intro k y h1 h2
          have hk1 : k + 1 < v.length := by
            rcases Nat.lt_or_ge (k + 1) v.length with h | h
            · exact h
            · rw [List.getElem?_eq_none h] at h2; cases h2
          have : k ∈ pl := by
            rw [← hpl]
            exact List.mem_filter.mpr ⟨List.mem_range.mpr (by omega), by rw [h1, h2]; simp⟩
          rw [hemp] at this; cases this
        · have : eqBL (List.map (fun k : Nat => V.int k) pl) [] = false := by simp [eqBL, hemp]
          rw [this]
          have h0 : 0 < pl.length := List.length_pos_iff.mpr hemp
          refine ⟨c, k0, rfl, by unfold fit; omega, fun m hm => ?_⟩
          refine divS (n := 7) (by omega) (by omega) (len_list hat (by simp; omega) (modS (by simp; omega) ?_))
          rw [List.length_map]
          have hj : m / 7 % pl.length < pl.length := Nat.mod_lt _ h0
          obtain ⟨hp1, hp2⟩ := hmem _ (List.getElem_mem hj)
          refine item_list hat (v := V.int (pl[m / 7 % pl.length] : Nat)) (by simp [hj]) (by simp; omega) ?_
          revert hp1 hp2
          generalize pl[m / 7 % pl.length] = p
          intro hp1 hp2
          refine to_S (by omega) (by omega) ?_
          rw [add_int]
          refine from_S (k := p + 2) (by omega) (by omega) ?_
          have hp0 : p < v.length := by omega
          have e1 : v[p]? = some v[p] := by simp [hp0]
          rw [e1] at hp2
          have hr2 := red_take hL e1 hp2
          refine add_S (by simp; omega) (hn _ _ ⟨l, v.take p ++ v.drop (p + 2), rfl, fun k hk' => hk k (.tail _ hk'), by simp [Loc.set], by simp [Loc.set, ofString_inj, hcc], (hL.take p).append (hL.drop _), by simp; omega, hr2.trans hred, ?_, hs2⟩)
          rcases hna with hna | hna
          · exact absurd hp2 (hna p _ e1)
          · refine .inr ?_
            simp at hna ⊢; omega
  · exact ⟨List.range u.length, u, by simp, fun k hk => by have := List.mem_range.mp hk; omega, by simp [Loc.set, ofString_inj], by simp [Loc.set, ofString_inj], hu, hl, rfl, .inr (by simp; omega), .refl σ⟩
theorem b_lturned : Body G w 23 ["_law_word_here"] 1 (t_ivr ivr) := by
  rintro n b sc h args σ Q X ⟨u, rfl, hl, hu, hQ⟩
  cases (h.symm.trans rfl : some _ = some _)
  clear h
  refine ⟨rfl, ?_⟩
  have hft : fit = 4096 := rfl
  simp only [wpSs_nil, wpSs_cons, wpS_Return, wpS_Pass, wpS_Expr, wpS_AssignN, wpS_If, wpS_For, wpS_Raise, wpS_Try, wpE_Constant, wpE_Name, wpE_BinOp, wpE_UnaryOp, wpE_BoolOp, wpE_Compare, wpE_IfExp, wpE_Tuple, wpE_List, wpE_Meth, wpE_Call, wpE_Slice, wpE_ItemN, wpE_ItemB, wpE_ItemK, wpE_ItemU, wpE_ItemC, wpE_CompN, wpE_Comp1, compK, wpL_nil, wpL_cons, wpO_none, wpO_some, wpB_one, wpB_cons, wpIf_nil, wpIf_cons, wpH, wpTry, notSet_N, notSet_C, notSet_K, notSet_S, notSet_B, notSet_L, notCompB_C, plain_nil, plain_N, plain_C, plain_K, plain_S, plain_B, plain_L, meth_N, meth_K, const_int, const_str, const_bool, const_none, raise_lit, headOf_range, headOf_rev, headOf_name, tgt_plain, tgt_range, tgt_rev, bind_cmp, bs_local, bs_cell, isHead_range, isHead_rev, ok_plain, ok_range, ok_rev, head_plain, head_range, nameS_cmp, ks_local, ks_cell, ks_free, ks_glob, cY, oY, cB, oB, ge_SMALL, ge_GREAT, ge_range, ge_reversed, ge_letter_back, ge__law_back, c_is_word, c_need_word, c_letter_back, c_shortened, c_turned, c_short, c_back, c_times, c__law_cell, c__law_mixed, c__law_letters, c__law_back, c__law_word, c__law_turned, c__law_taken_out, c__law_called, c__law_refused, c__law_is, o_is_word, o_need_word, o_letter_back, o_shortened, o_turned, o_short, o_back, o_times, o__law_cell, o__law_mixed, o__law_letters, o__law_back, o__law_word, o__law_turned, o__law_taken_out, o__law_called, o__law_refused, o__law_is, D01_G, D01_ge, D01_lvl, lookup_lit, String.reduceBEq, String.reduceEq, decide_true, decide_false, ofString_inj, bindR, List.zip, List.zipWith, List.zip_cons_cons, List.zip_nil_left, List.zip_nil_right, set_lit, if_true, if_false, ite_true, ite_false, Option.some.injEq, exists_eq_left', exists_eq_left, true_and, and_true, Option.isSome_some, Option.isSome_none, reduceCtorEq, or_true, true_or, or_false, false_or, List.isEmpty_nil, List.isEmpty_cons, beq_self_eq_true, Bool.and_true, Bool.true_and, List.length_cons, List.length_nil, Nat.reduceAdd, Nat.reduceLT, Nat.reduceLeDiff, Nat.reduceEqDiff, Nat.reduceBEq, decide_eq_true_eq, Bool.false_eq_true, Option.isNone_none, Bool.true_eq_false, ne_eq, not_true_eq_false, not_false_eq_true, true_implies, Prod.mk.injEq, and_self, Bool.or_false, Bool.or_true, Bool.false_or, Bool.true_or, List.cons.injEq, V.bool.injEq, V.int.injEq, retQ, V.typ.injEq, V.ref.injEq, V.str.injEq, and_assoc, exists_and_left, not_false_eq_true, Bool.not_eq_true, Bool.not_eq_false, cmpS, unS_not, unS_neg, add_int, sub_int, mul_int, div_int, mod_int, iter_S, rev_S, l23__law_word_here, s23__law_word_here, g23_reversed, k23_reversed, nil_S, Option.isSome]
  refine ⟨rfl, compOk_of (by kernel_rfl), by omega, by simp; omega, ?_⟩
  refine compL_map (fun _ => True) _ (fun c => S [inv c]) trivial trivial ?_ ?_
  · intro c hx ρ k _ hk
    exact ⟨c, rfl, hu c (List.mem_reverse.mp hx), hk _ trivial⟩
  · intro r hr
    refine join_S (Store.set_same ..) (by simp; omega) ?_
    have e : List.map inv u.reverse = ivr u := List.map_reverse
    rw [e]
    exact ⟨σ, (SubS.refl σ).set hr, hQ⟩
theorem b_called : Body G w 25 ["_law_pick", "_law_thing"] 4 t_called := by
  rintro n b sc h args σ Q X ⟨p, a, rfl, hb, hX⟩
  cases (h.symm.trans rfl : some _ = some _)
  clear h
  refine ⟨rfl, ?_⟩
  simp only [wpSs_nil, wpSs_cons, wpS_Return, wpS_Pass, wpS_Expr, wpS_AssignN, wpS_If, wpS_For, wpS_Raise, wpS_Try, wpE_Constant, wpE_Name, wpE_BinOp, wpE_UnaryOp, wpE_BoolOp, wpE_Compare, wpE_IfExp, wpE_Tuple, wpE_List, wpE_Meth, wpE_Call, wpE_Slice, wpE_ItemN, wpE_ItemB, wpE_ItemK, wpE_ItemU, wpE_ItemC, wpE_CompN, wpE_Comp1, compK, wpL_nil, wpL_cons, wpO_none, wpO_some, wpB_one, wpB_cons, wpIf_nil, wpIf_cons, wpH, wpTry, notSet_N, notSet_C, notSet_K, notSet_S, notSet_B, notSet_L, notCompB_C, plain_nil, plain_N, plain_C, plain_K, plain_S, plain_B, plain_L, meth_N, meth_K, const_int, const_str, const_bool, const_none, raise_lit, headOf_range, headOf_rev, headOf_name, tgt_plain, tgt_range, tgt_rev, bind_cmp, bs_local, bs_cell, isHead_range, isHead_rev, ok_plain, ok_range, ok_rev, head_plain, head_range, nameS_cmp, ks_local, ks_cell, ks_free, ks_glob, cY, oY, cB, oB, ge_SMALL, ge_GREAT, ge_range, ge_reversed, ge_letter_back, ge__law_back, c_is_word, c_need_word, c_letter_back, c_shortened, c_turned, c_short, c_back, c_times, c__law_cell, c__law_mixed, c__law_letters, c__law_back, c__law_word, c__law_turned, c__law_taken_out, c__law_called, c__law_refused, c__law_is, o_is_word, o_need_word, o_letter_back, o_shortened, o_turned, o_short, o_back, o_times, o__law_cell, o__law_mixed, o__law_letters, o__law_back, o__law_word, o__law_turned, o__law_taken_out, o__law_called, o__law_refused, o__law_is, D01_G, D01_ge, D01_lvl, lookup_lit, String.reduceBEq, String.reduceEq, decide_true, decide_false, ofString_inj, bindR, List.zip, List.zipWith, List.zip_cons_cons, List.zip_nil_left, List.zip_nil_right, set_lit, if_true, if_false, ite_true, ite_false, Option.some.injEq, exists_eq_left', exists_eq_left, true_and, and_true, Option.isSome_some, Option.isSome_none, reduceCtorEq, or_true, true_or, or_false, false_or, List.isEmpty_nil, List.isEmpty_cons, beq_self_eq_true, Bool.and_true, Bool.true_and, List.length_cons, List.length_nil, Nat.reduceAdd, Nat.reduceLT, Nat.reduceLeDiff, Nat.reduceEqDiff, Nat.reduceBEq, decide_eq_true_eq, Bool.false_eq_true, Option.isNone_none, Bool.true_eq_false, ne_eq, not_true_eq_false, not_false_eq_true, true_implies, Prod.mk.injEq, and_self, Bool.or_false, Bool.or_true, Bool.false_or, Bool.true_or, List.cons.injEq, V.bool.injEq, V.int.injEq, retQ, V.typ.injEq, V.ref.injEq, V.str.injEq, and_assoc, exists_and_left, not_false_eq_true, Bool.not_eq_true, Bool.not_eq_false, cmpS, unS_not, unS_neg, add_int, sub_int, mul_int, div_int, mod_int, iter_S, rev_S, l25__law_pick, s25__law_pick, l25__law_thing, s25__law_thing, g25_short, g25_back, g25_times]
  have one : ∀ (i j : Int) (K : Bool → Prop), (∀ b, K b) → eqS (.int i) (.int j) σ K := fun i j K hK => .inl ⟨rfl, rfl, hK _⟩
  have hA : V.str (Str.ofString "a") = S [97] := by rw [S]; congr 1
  have hB : V.str (Str.ofString "B") = S [66] := by rw [S]; congr 1
  rw [hA, hB]
  have hb' : Ls [66] := fun y hy => by rw [List.mem_singleton.mp hy]; rfl
  refine one _ _ _ fun b => ?_
  split
  · exact ⟨a, rfl, .inr ⟨hb, hX⟩⟩
  · refine one _ _ _ fun b => ?_
    split
    · exact ⟨a, rfl, .inr ⟨hb, hX⟩⟩
    · refine one _ _ _ fun b => ?_
      split
      · exact ⟨a, _, rfl, .inr (.inl ⟨hb, hX⟩)⟩
      · exact ⟨_, a, rfl, .inr (.inr ⟨_, rfl, by decide, hb', hb, hX⟩)⟩
theorem b_refused : Body G w 26 ["_law_pick", "_law_thing"] 5 t_refused := by
  rintro n b sc h args σ Q X ⟨p, a, rfl, hb, hX⟩
  cases (h.symm.trans rfl : some _ = some _)
  clear h
  refine ⟨rfl, ?_⟩
  simp only [wpSs_nil, wpSs_cons, wpS_Return, wpS_Pass, wpS_Expr, wpS_AssignN, wpS_If, wpS_For, wpS_Raise, wpS_Try, wpE_Constant, wpE_Name, wpE_BinOp, wpE_UnaryOp, wpE_BoolOp, wpE_Compare, wpE_IfExp, wpE_Tuple, wpE_List, wpE_Meth, wpE_Call, wpE_Slice, wpE_ItemN, wpE_ItemB, wpE_ItemK, wpE_ItemU, wpE_ItemC, wpE_CompN, wpE_Comp1, compK, wpL_nil, wpL_cons, wpO_none, wpO_some, wpB_one, wpB_cons, wpIf_nil, wpIf_cons, wpH, wpTry, notSet_N, notSet_C, notSet_K, notSet_S, notSet_B, notSet_L, notCompB_C, plain_nil, plain_N, plain_C, plain_K, plain_S, plain_B, plain_L, meth_N, meth_K, const_int, const_str, const_bool, const_none, raise_lit, headOf_range, headOf_rev, headOf_name, tgt_plain, tgt_range, tgt_rev, bind_cmp, bs_local, bs_cell, isHead_range, isHead_rev, ok_plain, ok_range, ok_rev, head_plain, head_range, nameS_cmp, ks_local, ks_cell, ks_free, ks_glob, cY, oY, cB, oB, ge_SMALL, ge_GREAT, ge_range, ge_reversed, ge_letter_back, ge__law_back, c_is_word, c_need_word, c_letter_back, c_shortened, c_turned, c_short, c_back, c_times, c__law_cell, c__law_mixed, c__law_letters, c__law_back, c__law_word, c__law_turned, c__law_taken_out, c__law_called, c__law_refused, c__law_is, o_is_word, o_need_word, o_letter_back, o_shortened, o_turned, o_short, o_back, o_times, o__law_cell, o__law_mixed, o__law_letters, o__law_back, o__law_word, o__law_turned, o__law_taken_out, o__law_called, o__law_refused, o__law_is, D01_G, D01_ge, D01_lvl, lookup_lit, String.reduceBEq, String.reduceEq, decide_true, decide_false, ofString_inj, bindR, List.zip, List.zipWith, List.zip_cons_cons, List.zip_nil_left, List.zip_nil_right, set_lit, if_true, if_false, ite_true, ite_false, Option.some.injEq, exists_eq_left', exists_eq_left, true_and, and_true, Option.isSome_some, Option.isSome_none, reduceCtorEq, or_true, true_or, or_false, false_or, List.isEmpty_nil, List.isEmpty_cons, beq_self_eq_true, Bool.and_true, Bool.true_and, List.length_cons, List.length_nil, Nat.reduceAdd, Nat.reduceLT, Nat.reduceLeDiff, Nat.reduceEqDiff, Nat.reduceBEq, decide_eq_true_eq, Bool.false_eq_true, Option.isNone_none, Bool.true_eq_false, ne_eq, not_true_eq_false, not_false_eq_true, true_implies, Prod.mk.injEq, and_self, Bool.or_false, Bool.or_true, Bool.false_or, Bool.true_or, List.cons.injEq, V.bool.injEq, V.int.injEq, retQ, V.typ.injEq, V.ref.injEq, V.str.injEq, and_assoc, exists_and_left, not_false_eq_true, Bool.not_eq_true, Bool.not_eq_false, cmpS, unS_not, unS_neg, add_int, sub_int, mul_int, div_int, mod_int, iter_S, rev_S, l26__law_pick, s26__law_pick, l26__law_thing, s26__law_thing, l26_error, s26_error, g26__law_called, g26_GlueError, g26_isinstance, g26_BadWord, k26_BadWord, g26_ValueError, g26_BadWeb]
  refine ⟨_, rfl, _, _, _, rfl, _, rfl, _, _, _, rfl, _, _, _, rfl, _, _, _, rfl, _, _, _, rfl, ?_, rfl, ?_⟩
  · exact ⟨rfl, ⟨rfl, rfl, rfl⟩, ⟨rfl, rfl, rfl⟩, ⟨rfl, rfl, rfl⟩, by kernel_rfl, by simp only [bindR, List.zip, List.zipWith, List.zip_cons_cons, List.zip_nil_left, set_lit, String.reduceEq, if_false], ⟨by kernel_rfl, by kernel_rfl, by kernel_rfl, by kernel_rfl, by kernel_rfl⟩, by simp only [D01_ge, ge_GlueError, ge_isinstance, ge_BadWord, ge_ValueError, ge_BadWeb, and_self]⟩
  · simp only [wpSs_nil, wpSs_cons, wpS_Return, wpS_Pass, wpS_Expr, wpS_AssignN, wpS_If, wpS_For, wpS_Raise, wpS_Try, wpE_Constant, wpE_Name, wpE_BinOp, wpE_UnaryOp, wpE_BoolOp, wpE_Compare, wpE_IfExp, wpE_Tuple, wpE_List, wpE_Meth, wpE_Call, wpE_Slice, wpE_ItemN, wpE_ItemB, wpE_ItemK, wpE_ItemU, wpE_ItemC, wpE_CompN, wpE_Comp1, compK, wpL_nil, wpL_cons, wpO_none, wpO_some, wpB_one, wpB_cons, wpIf_nil, wpIf_cons, wpH, wpTry, notSet_N, notSet_C, notSet_K, notSet_S, notSet_B, notSet_L, notCompB_C, plain_nil, plain_N, plain_C, plain_K, plain_S, plain_B, plain_L, meth_N, meth_K, const_int, const_str, const_bool, const_none, raise_lit, headOf_range, headOf_rev, headOf_name, tgt_plain, tgt_range, tgt_rev, bind_cmp, bs_local, bs_cell, isHead_range, isHead_rev, ok_plain, ok_range, ok_rev, head_plain, head_range, nameS_cmp, ks_local, ks_cell, ks_free, ks_glob, cY, oY, cB, oB, ge_SMALL, ge_GREAT, ge_range, ge_reversed, ge_letter_back, ge__law_back, c_is_word, c_need_word, c_letter_back, c_shortened, c_turned, c_short, c_back, c_times, c__law_cell, c__law_mixed, c__law_letters, c__law_back, c__law_word, c__law_turned, c__law_taken_out, c__law_called, c__law_refused, c__law_is, o_is_word, o_need_word, o_letter_back, o_shortened, o_turned, o_short, o_back, o_times, o__law_cell, o__law_mixed, o__law_letters, o__law_back, o__law_word, o__law_turned, o__law_taken_out, o__law_called, o__law_refused, o__law_is, D01_G, D01_ge, D01_lvl, lookup_lit, String.reduceBEq, String.reduceEq, decide_true, decide_false, ofString_inj, bindR, List.zip, List.zipWith, List.zip_cons_cons, List.zip_nil_left, List.zip_nil_right, set_lit, if_true, if_false, ite_true, ite_false, Option.some.injEq, exists_eq_left', exists_eq_left, true_and, and_true, Option.isSome_some, Option.isSome_none, reduceCtorEq, or_true, true_or, or_false, false_or, List.isEmpty_nil, List.isEmpty_cons, beq_self_eq_true, Bool.and_true, Bool.true_and, List.length_cons, List.length_nil, Nat.reduceAdd, Nat.reduceLT, Nat.reduceLeDiff, Nat.reduceEqDiff, Nat.reduceBEq, decide_eq_true_eq, Bool.false_eq_true, Option.isNone_none, Bool.true_eq_false, ne_eq, not_true_eq_false, not_false_eq_true, true_implies, Prod.mk.injEq, and_self, Bool.or_false, Bool.or_true, Bool.false_or, Bool.true_or, List.cons.injEq, V.bool.injEq, V.int.injEq, retQ, V.typ.injEq, V.ref.injEq, V.str.injEq, and_assoc, exists_and_left, not_false_eq_true, Bool.not_eq_true, Bool.not_eq_false, cmpS, unS_not, unS_neg, add_int, sub_int, mul_int, div_int, mod_int, iter_S, rev_S, l26__law_pick, s26__law_pick, l26__law_thing, s26__law_thing, l26_error, s26_error, g26__law_called, g26_GlueError, g26_isinstance, g26_BadWord, k26_BadWord, g26_ValueError, g26_BadWeb]
    exact ⟨p, a, rfl, hb, σ, .refl σ, hX⟩
theorem b_is : Body G w 27 ["_law_found", "_law_due"] 0 t_is := by
  rintro n b sc h args σ Q X ⟨u, v, rfl, hu, hv, hQ⟩
  cases (h.symm.trans rfl : some _ = some _)
  clear h
  refine ⟨rfl, ?_⟩
  simp only [wpSs_nil, wpSs_cons, wpS_Return, wpS_Pass, wpS_Expr, wpS_AssignN, wpS_If, wpS_For, wpS_Raise, wpS_Try, wpE_Constant, wpE_Name, wpE_BinOp, wpE_UnaryOp, wpE_BoolOp, wpE_Compare, wpE_IfExp, wpE_Tuple, wpE_List, wpE_Meth, wpE_Call, wpE_Slice, wpE_ItemN, wpE_ItemB, wpE_ItemK, wpE_ItemU, wpE_ItemC, wpE_CompN, wpE_Comp1, compK, wpL_nil, wpL_cons, wpO_none, wpO_some, wpB_one, wpB_cons, wpIf_nil, wpIf_cons, wpH, wpTry, notSet_N, notSet_C, notSet_K, notSet_S, notSet_B, notSet_L, notCompB_C, plain_nil, plain_N, plain_C, plain_K, plain_S, plain_B, plain_L, meth_N, meth_K, const_int, const_str, const_bool, const_none, raise_lit, headOf_range, headOf_rev, headOf_name, tgt_plain, tgt_range, tgt_rev, bind_cmp, bs_local, bs_cell, isHead_range, isHead_rev, ok_plain, ok_range, ok_rev, head_plain, head_range, nameS_cmp, ks_local, ks_cell, ks_free, ks_glob, cY, oY, cB, oB, ge_SMALL, ge_GREAT, ge_range, ge_reversed, ge_letter_back, ge__law_back, c_is_word, c_need_word, c_letter_back, c_shortened, c_turned, c_short, c_back, c_times, c__law_cell, c__law_mixed, c__law_letters, c__law_back, c__law_word, c__law_turned, c__law_taken_out, c__law_called, c__law_refused, c__law_is, o_is_word, o_need_word, o_letter_back, o_shortened, o_turned, o_short, o_back, o_times, o__law_cell, o__law_mixed, o__law_letters, o__law_back, o__law_word, o__law_turned, o__law_taken_out, o__law_called, o__law_refused, o__law_is, D01_G, D01_ge, D01_lvl, lookup_lit, String.reduceBEq, String.reduceEq, decide_true, decide_false, ofString_inj, bindR, List.zip, List.zipWith, List.zip_cons_cons, List.zip_nil_left, List.zip_nil_right, set_lit, if_true, if_false, ite_true, ite_false, Option.some.injEq, exists_eq_left', exists_eq_left, true_and, and_true, Option.isSome_some, Option.isSome_none, reduceCtorEq, or_true, true_or, or_false, false_or, List.isEmpty_nil, List.isEmpty_cons, beq_self_eq_true, Bool.and_true, Bool.true_and, List.length_cons, List.length_nil, Nat.reduceAdd, Nat.reduceLT, Nat.reduceLeDiff, Nat.reduceEqDiff, Nat.reduceBEq, decide_eq_true_eq, Bool.false_eq_true, Option.isNone_none, Bool.true_eq_false, ne_eq, not_true_eq_false, not_false_eq_true, true_implies, Prod.mk.injEq, and_self, Bool.or_false, Bool.or_true, Bool.false_or, Bool.true_or, List.cons.injEq, V.bool.injEq, V.int.injEq, retQ, V.typ.injEq, V.ref.injEq, V.str.injEq, and_assoc, exists_and_left, not_false_eq_true, Bool.not_eq_true, Bool.not_eq_false, cmpS, unS_not, unS_neg, add_int, sub_int, mul_int, div_int, mod_int, iter_S, rev_S, l27__law_found, s27__law_found, l27__law_due, s27__law_due, g27_isinstance, g27_str, callB]
  refine ⟨.head _, true, rfl, ?_⟩
  rw [if_neg (by decide)]
  exact eq_S hu hv ⟨σ, .refl σ, hQ⟩
end
end Mine

set_option linter.unusedVariables false
set_option autoImplicit false
set_option linter.unusedSimpArgs false
namespace Mine
open PySem PySem.Calls PyProof.Rows
section
variable {G : Gl} {σ : Store} {Q : QV} {X : XP}
theorem cell_ok (hG : G.ns.length ≤ 63) (k : Nat) (hk : k ≤ 63) (q : ∀ i : Int, Q (.int i) σ) : t_cell G [.scr, .int k] σ Q X := ⟨k, rfl, hk, hG, q _⟩
theorem modI {i : Int} {n : Nat} (h : 0 < n) (q : ∀ m : Nat, m < n → Q (.int m) σ) : binS .Mod (.int i) (.int n) σ Q := by
  obtain ⟨m, hm, hl⟩ := fm i h
  rw [mod_int, hm]; exact ⟨by omega, q m hl⟩
theorem short_ok {f : List Nat → List Nat} {u : List Nat} (hl : u.length ≤ fit) (hu : Ls u) (q : Q (S (f u)) σ) : t_short f [S u] σ Q X := ⟨_, rfl, .inl ⟨u, rfl, hl, hu, q⟩⟩
theorem times_ok {u v : List Nat} (hl : u.length + v.length ≤ fit) (hu : Ls u) (hv : Ls v) (q : Q (S (red (u ++ v))) σ) : t_times [S u, S v] σ Q X := ⟨_, _, rfl, .inl ⟨u, v, rfl, rfl, hl, hu, hv, q⟩⟩
theorem taken_ok {u : List Nat} {c : Int} (hl : u.length ≤ 1000) (hu : Ls u) (q : Q (S (red u)) σ) : t_taken [S u, .int c] σ Q X := ⟨u, c, rfl, hl, hu, q⟩
theorem is_ok {u v : List Nat} (hu : Ls u) (hv : Ls v) (e : u = v) (q : Q (.bool true) σ) : t_is [S u, S v] σ Q X := ⟨u, v, rfl, hu, hv, by simpa [e] using q⟩
theorem ivr_ok {f : List Nat → List Nat} {u : List Nat} (hl : u.length ≤ fit) (hu : Ls u) (q : Q (S (f u)) σ) : t_ivr f [S u] σ Q X := ⟨u, rfl, hl, hu, q⟩

theorem isw_bad {v : V} (h : Bad σ v) (q : Q (.bool false) σ) : t_is_word [v] σ Q X := by
  refine ⟨v, rfl, ?_⟩
  rcases h with ⟨u, rfl, hl, hu⟩ | h
  · refine .inl ⟨u, rfl, hl, ?_⟩
    rw [Bool.eq_false_iff.mpr fun e => hu (List.all_eq_true.mp e)]
    exact q
  · exact .inr ⟨h, q⟩
theorem refused_ok {v : V} {p : Int} (h : Bad σ v) (q : Q (.bool true) σ) : t_refused [.int p, v] σ Q X := ⟨p, v, rfl, h, q⟩
theorem len_rp (s : List Nat) (c : Nat) : (rp s c).length ≤ s.length + 1 := by
  unfold rp; split
  · simp
  · split <;> simp <;> omega
theorem len_rr : ∀ (w s : List Nat), (rr s w).length ≤ s.length + w.length
  | [], s => by simp [rr]
  | c :: w, s => by have := len_rr w (rp s c); have := len_rp s c; rw [rr_cons]; simp; omega
theorem len_red (w : List Nat) : (red w).length ≤ w.length := by have := len_rr w []; simpa [red] using this
end

section
variable (G : Gl) (w : World)
theorem b_law (hG : G.ns.length ≤ 63) : ∀ n b sc, defAt 28 = some (n, b, sc) → wpSs (D01 G w 6) b (scAt 28) (fun y => if y = "_law_script" then some .scr else none) (fun _ => none) (retQ fun v _ => v = .bool true) (fun _ => False) := by
  intro n b sc h
  cases (h.symm.trans rfl : some _ = some _)
  clear h
  have hft : fit = 4096 := rfl
  generalize hρ0 : (fun y : Str => if y = "_law_script" then some V.scr else none) = ρ0
  have hs0 : ρ0 (Str.ofString "_law_script") = some V.scr := by rw [← hρ0]; exact if_pos rfl
  clear hρ0
  refine wp_cons ?_
  simp only [wpSs_nil, wpSs_cons, wpS_Return, wpS_Pass, wpS_Expr, wpS_AssignN, wpS_If, wpS_For, wpS_Raise, wpS_Try, wpE_Constant, wpE_Name, wpE_BinOp, wpE_UnaryOp, wpE_BoolOp, wpE_Compare, wpE_IfExp, wpE_Tuple, wpE_List, wpE_Meth, wpE_Call, wpE_Slice, wpE_ItemN, wpE_ItemB, wpE_ItemK, wpE_ItemU, wpE_ItemC, wpE_CompN, wpE_Comp1, compK, wpL_nil, wpL_cons, wpO_none, wpO_some, wpB_one, wpB_cons, wpIf_nil, wpIf_cons, wpH, wpTry, notSet_N, notSet_C, notSet_K, notSet_S, notSet_B, notSet_L, notCompB_C, plain_nil, plain_N, plain_C, plain_K, plain_S, plain_B, plain_L, meth_N, meth_K, const_int, const_str, const_bool, const_none, raise_lit, headOf_range, headOf_rev, headOf_name, tgt_plain, tgt_range, tgt_rev, bind_cmp, bs_local, bs_cell, isHead_range, isHead_rev, ok_plain, ok_range, ok_rev, head_plain, head_range, nameS_cmp, ks_local, ks_cell, ks_free, ks_glob, cY, oY, cB, oB, ge_SMALL, ge_GREAT, ge_range, ge_reversed, ge_letter_back, ge__law_back, c_is_word, c_need_word, c_letter_back, c_shortened, c_turned, c_short, c_back, c_times, c__law_cell, c__law_mixed, c__law_letters, c__law_back, c__law_word, c__law_turned, c__law_taken_out, c__law_called, c__law_refused, c__law_is, o_is_word, o_need_word, o_letter_back, o_shortened, o_turned, o_short, o_back, o_times, o__law_cell, o__law_mixed, o__law_letters, o__law_back, o__law_word, o__law_turned, o__law_taken_out, o__law_called, o__law_refused, o__law_is, D01_G, D01_ge, D01_lvl, lookup_lit, String.reduceBEq, String.reduceEq, decide_true, decide_false, ofString_inj, bindR, List.zip, List.zipWith, List.zip_cons_cons, List.zip_nil_left, List.zip_nil_right, set_lit, if_true, if_false, ite_true, ite_false, Option.some.injEq, exists_eq_left', exists_eq_left, true_and, and_true, Option.isSome_some, Option.isSome_none, reduceCtorEq, or_true, true_or, or_false, false_or, List.isEmpty_nil, List.isEmpty_cons, beq_self_eq_true, Bool.and_true, Bool.true_and, List.length_cons, List.length_nil, Nat.reduceAdd, Nat.reduceLT, Nat.reduceLeDiff, Nat.reduceEqDiff, Nat.reduceBEq, decide_eq_true_eq, Bool.false_eq_true, Option.isNone_none, Bool.true_eq_false, ne_eq, not_true_eq_false, not_false_eq_true, true_implies, Prod.mk.injEq, and_self, Bool.or_false, Bool.or_true, Bool.false_or, Bool.true_or, List.cons.injEq, V.bool.injEq, V.int.injEq, retQ, V.typ.injEq, V.ref.injEq, V.str.injEq, and_assoc, exists_and_left, not_false_eq_true, Bool.not_eq_true, Bool.not_eq_false, cmpS, unS_not, unS_neg, add_int, sub_int, mul_int, div_int, mod_int, iter_S, rev_S, l28__law_script, s28__law_script, l28__law_letters_here, s28__law_letters_here, l28__law_word_here, s28__law_word_here, l28__law_other, s28__law_other, l28__law_due, s28__law_due, l28__law_last, s28__law_last, l28__law_both, s28__law_both, l28__law_things, s28__law_things, l28__law_thing, s28__law_thing, g28__law_letters, g28__law_cell, g28__law_word, g28__law_taken_out, g28_is_word, g28__law_is, g28_short, g28_back, g28__law_turned, g28_times, g28__law_refused, hs0, seqQ_ret]
  refine cell_ok hG 0 (by omega) fun i => ⟨_, rfl, fun ls h1 h8 hls r hr => next_set fun ρ1 e1 n1 => ?_⟩
  have hs1 := (n1 _ (neL (a := "_law_script") (b := "_law_letters_here") (by decide))).trans hs0
  have hl1 := e1
  clear n1 e1 hs0
  refine wp_cons ?_
  simp only [wpSs_nil, wpSs_cons, wpS_Return, wpS_Pass, wpS_Expr, wpS_AssignN, wpS_If, wpS_For, wpS_Raise, wpS_Try, wpE_Constant, wpE_Name, wpE_BinOp, wpE_UnaryOp, wpE_BoolOp, wpE_Compare, wpE_IfExp, wpE_Tuple, wpE_List, wpE_Meth, wpE_Call, wpE_Slice, wpE_ItemN, wpE_ItemB, wpE_ItemK, wpE_ItemU, wpE_ItemC, wpE_CompN, wpE_Comp1, compK, wpL_nil, wpL_cons, wpO_none, wpO_some, wpB_one, wpB_cons, wpIf_nil, wpIf_cons, wpH, wpTry, notSet_N, notSet_C, notSet_K, notSet_S, notSet_B, notSet_L, notCompB_C, plain_nil, plain_N, plain_C, plain_K, plain_S, plain_B, plain_L, meth_N, meth_K, const_int, const_str, const_bool, const_none, raise_lit, headOf_range, headOf_rev, headOf_name, tgt_plain, tgt_range, tgt_rev, bind_cmp, bs_local, bs_cell, isHead_range, isHead_rev, ok_plain, ok_range, ok_rev, head_plain, head_range, nameS_cmp, ks_local, ks_cell, ks_free, ks_glob, cY, oY, cB, oB, ge_SMALL, ge_GREAT, ge_range, ge_reversed, ge_letter_back, ge__law_back, c_is_word, c_need_word, c_letter_back, c_shortened, c_turned, c_short, c_back, c_times, c__law_cell, c__law_mixed, c__law_letters, c__law_back, c__law_word, c__law_turned, c__law_taken_out, c__law_called, c__law_refused, c__law_is, o_is_word, o_need_word, o_letter_back, o_shortened, o_turned, o_short, o_back, o_times, o__law_cell, o__law_mixed, o__law_letters, o__law_back, o__law_word, o__law_turned, o__law_taken_out, o__law_called, o__law_refused, o__law_is, D01_G, D01_ge, D01_lvl, lookup_lit, String.reduceBEq, String.reduceEq, decide_true, decide_false, ofString_inj, bindR, List.zip, List.zipWith, List.zip_cons_cons, List.zip_nil_left, List.zip_nil_right, set_lit, if_true, if_false, ite_true, ite_false, Option.some.injEq, exists_eq_left', exists_eq_left, true_and, and_true, Option.isSome_some, Option.isSome_none, reduceCtorEq, or_true, true_or, or_false, false_or, List.isEmpty_nil, List.isEmpty_cons, beq_self_eq_true, Bool.and_true, Bool.true_and, List.length_cons, List.length_nil, Nat.reduceAdd, Nat.reduceLT, Nat.reduceLeDiff, Nat.reduceEqDiff, Nat.reduceBEq, decide_eq_true_eq, Bool.false_eq_true, Option.isNone_none, Bool.true_eq_false, ne_eq, not_true_eq_false, not_false_eq_true, true_implies, Prod.mk.injEq, and_self, Bool.or_false, Bool.or_true, Bool.false_or, Bool.true_or, List.cons.injEq, V.bool.injEq, V.int.injEq, retQ, V.typ.injEq, V.ref.injEq, V.str.injEq, and_assoc, exists_and_left, not_false_eq_true, Bool.not_eq_true, Bool.not_eq_false, cmpS, unS_not, unS_neg, add_int, sub_int, mul_int, div_int, mod_int, iter_S, rev_S, l28__law_script, s28__law_script, l28__law_letters_here, s28__law_letters_here, l28__law_word_here, s28__law_word_here, l28__law_other, s28__law_other, l28__law_due, s28__law_due, l28__law_last, s28__law_last, l28__law_both, s28__law_both, l28__law_things, s28__law_things, l28__law_thing, s28__law_thing, g28__law_letters, g28__law_cell, g28__law_word, g28__law_taken_out, g28_is_word, g28__law_is, g28_short, g28_back, g28__law_turned, g28_times, g28__law_refused, hs1, hl1, seqQ_ret]
  refine cell_ok hG 1 (by omega) fun i => cell_ok hG 2 (by omega) fun j => modI (n := 61) (by omega) fun m hm => ⟨_, r, m, ls, rfl, by omega, Store.set_same .., h1, h8, hls, fun W hW hWl => next_set fun ρ2 e2 n2 => ?_⟩
  have hs2 := (n2 _ (neL (a := "_law_script") (b := "_law_word_here") (by decide))).trans hs1
  have hl2 := (n2 _ (neL (a := "_law_letters_here") (b := "_law_word_here") (by decide))).trans hl1
  have hw2 := e2
  clear n2 e2 hs1 hl1
  refine wp_cons ?_
  simp only [wpSs_nil, wpSs_cons, wpS_Return, wpS_Pass, wpS_Expr, wpS_AssignN, wpS_If, wpS_For, wpS_Raise, wpS_Try, wpE_Constant, wpE_Name, wpE_BinOp, wpE_UnaryOp, wpE_BoolOp, wpE_Compare, wpE_IfExp, wpE_Tuple, wpE_List, wpE_Meth, wpE_Call, wpE_Slice, wpE_ItemN, wpE_ItemB, wpE_ItemK, wpE_ItemU, wpE_ItemC, wpE_CompN, wpE_Comp1, compK, wpL_nil, wpL_cons, wpO_none, wpO_some, wpB_one, wpB_cons, wpIf_nil, wpIf_cons, wpH, wpTry, notSet_N, notSet_C, notSet_K, notSet_S, notSet_B, notSet_L, notCompB_C, plain_nil, plain_N, plain_C, plain_K, plain_S, plain_B, plain_L, meth_N, meth_K, const_int, const_str, const_bool, const_none, raise_lit, headOf_range, headOf_rev, headOf_name, tgt_plain, tgt_range, tgt_rev, bind_cmp, bs_local, bs_cell, isHead_range, isHead_rev, ok_plain, ok_range, ok_rev, head_plain, head_range, nameS_cmp, ks_local, ks_cell, ks_free, ks_glob, cY, oY, cB, oB, ge_SMALL, ge_GREAT, ge_range, ge_reversed, ge_letter_back, ge__law_back, c_is_word, c_need_word, c_letter_back, c_shortened, c_turned, c_short, c_back, c_times, c__law_cell, c__law_mixed, c__law_letters, c__law_back, c__law_word, c__law_turned, c__law_taken_out, c__law_called, c__law_refused, c__law_is, o_is_word, o_need_word, o_letter_back, o_shortened, o_turned, o_short, o_back, o_times, o__law_cell, o__law_mixed, o__law_letters, o__law_back, o__law_word, o__law_turned, o__law_taken_out, o__law_called, o__law_refused, o__law_is, D01_G, D01_ge, D01_lvl, lookup_lit, String.reduceBEq, String.reduceEq, decide_true, decide_false, ofString_inj, bindR, List.zip, List.zipWith, List.zip_cons_cons, List.zip_nil_left, List.zip_nil_right, set_lit, if_true, if_false, ite_true, ite_false, Option.some.injEq, exists_eq_left', exists_eq_left, true_and, and_true, Option.isSome_some, Option.isSome_none, reduceCtorEq, or_true, true_or, or_false, false_or, List.isEmpty_nil, List.isEmpty_cons, beq_self_eq_true, Bool.and_true, Bool.true_and, List.length_cons, List.length_nil, Nat.reduceAdd, Nat.reduceLT, Nat.reduceLeDiff, Nat.reduceEqDiff, Nat.reduceBEq, decide_eq_true_eq, Bool.false_eq_true, Option.isNone_none, Bool.true_eq_false, ne_eq, not_true_eq_false, not_false_eq_true, true_implies, Prod.mk.injEq, and_self, Bool.or_false, Bool.or_true, Bool.false_or, Bool.true_or, List.cons.injEq, V.bool.injEq, V.int.injEq, retQ, V.typ.injEq, V.ref.injEq, V.str.injEq, and_assoc, exists_and_left, not_false_eq_true, Bool.not_eq_true, Bool.not_eq_false, cmpS, unS_not, unS_neg, add_int, sub_int, mul_int, div_int, mod_int, iter_S, rev_S, l28__law_script, s28__law_script, l28__law_letters_here, s28__law_letters_here, l28__law_word_here, s28__law_word_here, l28__law_other, s28__law_other, l28__law_due, s28__law_due, l28__law_last, s28__law_last, l28__law_both, s28__law_both, l28__law_things, s28__law_things, l28__law_thing, s28__law_thing, g28__law_letters, g28__law_cell, g28__law_word, g28__law_taken_out, g28_is_word, g28__law_is, g28_short, g28_back, g28__law_turned, g28_times, g28__law_refused, hs2, hl2, hw2, seqQ_ret]
  refine cell_ok hG 3 (by omega) fun i => cell_ok hG 4 (by omega) fun j => modI (n := 10) (by omega) fun m hm => ⟨_, r, m, ls, rfl, by omega, Store.set_same .., h1, h8, hls, fun O hO hOl => next_set fun ρ3 e3 n3 => ?_⟩
  have hs3 := (n3 _ (neL (a := "_law_script") (b := "_law_other") (by decide))).trans hs2
  have hl3 := (n3 _ (neL (a := "_law_letters_here") (b := "_law_other") (by decide))).trans hl2
  have hw3 := (n3 _ (neL (a := "_law_word_here") (b := "_law_other") (by decide))).trans hw2
  have ho3 := e3
  clear n3 e3 hs2 hl2 hw2
  refine wp_cons ?_
  simp only [wpSs_nil, wpSs_cons, wpS_Return, wpS_Pass, wpS_Expr, wpS_AssignN, wpS_If, wpS_For, wpS_Raise, wpS_Try, wpE_Constant, wpE_Name, wpE_BinOp, wpE_UnaryOp, wpE_BoolOp, wpE_Compare, wpE_IfExp, wpE_Tuple, wpE_List, wpE_Meth, wpE_Call, wpE_Slice, wpE_ItemN, wpE_ItemB, wpE_ItemK, wpE_ItemU, wpE_ItemC, wpE_CompN, wpE_Comp1, compK, wpL_nil, wpL_cons, wpO_none, wpO_some, wpB_one, wpB_cons, wpIf_nil, wpIf_cons, wpH, wpTry, notSet_N, notSet_C, notSet_K, notSet_S, notSet_B, notSet_L, notCompB_C, plain_nil, plain_N, plain_C, plain_K, plain_S, plain_B, plain_L, meth_N, meth_K, const_int, const_str, const_bool, const_none, raise_lit, headOf_range, headOf_rev, headOf_name, tgt_plain, tgt_range, tgt_rev, bind_cmp, bs_local, bs_cell, isHead_range, isHead_rev, ok_plain, ok_range, ok_rev, head_plain, head_range, nameS_cmp, ks_local, ks_cell, ks_free, ks_glob, cY, oY, cB, oB, ge_SMALL, ge_GREAT, ge_range, ge_reversed, ge_letter_back, ge__law_back, c_is_word, c_need_word, c_letter_back, c_shortened, c_turned, c_short, c_back, c_times, c__law_cell, c__law_mixed, c__law_letters, c__law_back, c__law_word, c__law_turned, c__law_taken_out, c__law_called, c__law_refused, c__law_is, o_is_word, o_need_word, o_letter_back, o_shortened, o_turned, o_short, o_back, o_times, o__law_cell, o__law_mixed, o__law_letters, o__law_back, o__law_word, o__law_turned, o__law_taken_out, o__law_called, o__law_refused, o__law_is, D01_G, D01_ge, D01_lvl, lookup_lit, String.reduceBEq, String.reduceEq, decide_true, decide_false, ofString_inj, bindR, List.zip, List.zipWith, List.zip_cons_cons, List.zip_nil_left, List.zip_nil_right, set_lit, if_true, if_false, ite_true, ite_false, Option.some.injEq, exists_eq_left', exists_eq_left, true_and, and_true, Option.isSome_some, Option.isSome_none, reduceCtorEq, or_true, true_or, or_false, false_or, List.isEmpty_nil, List.isEmpty_cons, beq_self_eq_true, Bool.and_true, Bool.true_and, List.length_cons, List.length_nil, Nat.reduceAdd, Nat.reduceLT, Nat.reduceLeDiff, Nat.reduceEqDiff, Nat.reduceBEq, decide_eq_true_eq, Bool.false_eq_true, Option.isNone_none, Bool.true_eq_false, ne_eq, not_true_eq_false, not_false_eq_true, true_implies, Prod.mk.injEq, and_self, Bool.or_false, Bool.or_true, Bool.false_or, Bool.true_or, List.cons.injEq, V.bool.injEq, V.int.injEq, retQ, V.typ.injEq, V.ref.injEq, V.str.injEq, and_assoc, exists_and_left, not_false_eq_true, Bool.not_eq_true, Bool.not_eq_false, cmpS, unS_not, unS_neg, add_int, sub_int, mul_int, div_int, mod_int, iter_S, rev_S, l28__law_script, s28__law_script, l28__law_letters_here, s28__law_letters_here, l28__law_word_here, s28__law_word_here, l28__law_other, s28__law_other, l28__law_due, s28__law_due, l28__law_last, s28__law_last, l28__law_both, s28__law_both, l28__law_things, s28__law_things, l28__law_thing, s28__law_thing, g28__law_letters, g28__law_cell, g28__law_word, g28__law_taken_out, g28_is_word, g28__law_is, g28_short, g28_back, g28__law_turned, g28_times, g28__law_refused, hs3, hl3, hw3, ho3, seqQ_ret]
  refine cell_ok hG 5 (by omega) fun i => taken_ok (by omega) hW (next_set fun ρ4 e4 n4 => ?_)
  have hs4 := (n4 _ (neL (a := "_law_script") (b := "_law_due") (by decide))).trans hs3
  have hl4 := (n4 _ (neL (a := "_law_letters_here") (b := "_law_due") (by decide))).trans hl3
  have hw4 := (n4 _ (neL (a := "_law_word_here") (b := "_law_due") (by decide))).trans hw3
  have ho4 := (n4 _ (neL (a := "_law_other") (b := "_law_due") (by decide))).trans ho3
  have hd4 := e4
  clear n4 e4 hs3 hl3 hw3 ho3
  refine wp_cons ?_
  simp only [wpSs_nil, wpSs_cons, wpS_Return, wpS_Pass, wpS_Expr, wpS_AssignN, wpS_If, wpS_For, wpS_Raise, wpS_Try, wpE_Constant, wpE_Name, wpE_BinOp, wpE_UnaryOp, wpE_BoolOp, wpE_Compare, wpE_IfExp, wpE_Tuple, wpE_List, wpE_Meth, wpE_Call, wpE_Slice, wpE_ItemN, wpE_ItemB, wpE_ItemK, wpE_ItemU, wpE_ItemC, wpE_CompN, wpE_Comp1, compK, wpL_nil, wpL_cons, wpO_none, wpO_some, wpB_one, wpB_cons, wpIf_nil, wpIf_cons, wpH, wpTry, notSet_N, notSet_C, notSet_K, notSet_S, notSet_B, notSet_L, notCompB_C, plain_nil, plain_N, plain_C, plain_K, plain_S, plain_B, plain_L, meth_N, meth_K, const_int, const_str, const_bool, const_none, raise_lit, headOf_range, headOf_rev, headOf_name, tgt_plain, tgt_range, tgt_rev, bind_cmp, bs_local, bs_cell, isHead_range, isHead_rev, ok_plain, ok_range, ok_rev, head_plain, head_range, nameS_cmp, ks_local, ks_cell, ks_free, ks_glob, cY, oY, cB, oB, ge_SMALL, ge_GREAT, ge_range, ge_reversed, ge_letter_back, ge__law_back, c_is_word, c_need_word, c_letter_back, c_shortened, c_turned, c_short, c_back, c_times, c__law_cell, c__law_mixed, c__law_letters, c__law_back, c__law_word, c__law_turned, c__law_taken_out, c__law_called, c__law_refused, c__law_is, o_is_word, o_need_word, o_letter_back, o_shortened, o_turned, o_short, o_back, o_times, o__law_cell, o__law_mixed, o__law_letters, o__law_back, o__law_word, o__law_turned, o__law_taken_out, o__law_called, o__law_refused, o__law_is, D01_G, D01_ge, D01_lvl, lookup_lit, String.reduceBEq, String.reduceEq, decide_true, decide_false, ofString_inj, bindR, List.zip, List.zipWith, List.zip_cons_cons, List.zip_nil_left, List.zip_nil_right, set_lit, if_true, if_false, ite_true, ite_false, Option.some.injEq, exists_eq_left', exists_eq_left, true_and, and_true, Option.isSome_some, Option.isSome_none, reduceCtorEq, or_true, true_or, or_false, false_or, List.isEmpty_nil, List.isEmpty_cons, beq_self_eq_true, Bool.and_true, Bool.true_and, List.length_cons, List.length_nil, Nat.reduceAdd, Nat.reduceLT, Nat.reduceLeDiff, Nat.reduceEqDiff, Nat.reduceBEq, decide_eq_true_eq, Bool.false_eq_true, Option.isNone_none, Bool.true_eq_false, ne_eq, not_true_eq_false, not_false_eq_true, true_implies, Prod.mk.injEq, and_self, Bool.or_false, Bool.or_true, Bool.false_or, Bool.true_or, List.cons.injEq, V.bool.injEq, V.int.injEq, retQ, V.typ.injEq, V.ref.injEq, V.str.injEq, and_assoc, exists_and_left, not_false_eq_true, Bool.not_eq_true, Bool.not_eq_false, cmpS, unS_not, unS_neg, add_int, sub_int, mul_int, div_int, mod_int, iter_S, rev_S, l28__law_script, s28__law_script, l28__law_letters_here, s28__law_letters_here, l28__law_word_here, s28__law_word_here, l28__law_other, s28__law_other, l28__law_due, s28__law_due, l28__law_last, s28__law_last, l28__law_both, s28__law_both, l28__law_things, s28__law_things, l28__law_thing, s28__law_thing, g28__law_letters, g28__law_cell, g28__law_word, g28__law_taken_out, g28_is_word, g28__law_is, g28_short, g28_back, g28__law_turned, g28_times, g28__law_refused, hs4, hl4, hw4, ho4, hd4, seqQ_ret]
  refine cell_ok hG 5 (by omega) fun i => taken_ok (by omega) hO (next_set fun ρ5 e5 n5 => ?_)
  have hs5 := (n5 _ (neL (a := "_law_script") (b := "_law_last") (by decide))).trans hs4
  have hl5 := (n5 _ (neL (a := "_law_letters_here") (b := "_law_last") (by decide))).trans hl4
  have hw5 := (n5 _ (neL (a := "_law_word_here") (b := "_law_last") (by decide))).trans hw4
  have ho5 := (n5 _ (neL (a := "_law_other") (b := "_law_last") (by decide))).trans ho4
  have hd5 := (n5 _ (neL (a := "_law_due") (b := "_law_last") (by decide))).trans hd4
  have ha5 := e5
  clear n5 e5 hs4 hl4 hw4 ho4 hd4
  refine wp_cons ?_
  simp only [wpSs_nil, wpSs_cons, wpS_Return, wpS_Pass, wpS_Expr, wpS_AssignN, wpS_If, wpS_For, wpS_Raise, wpS_Try, wpE_Constant, wpE_Name, wpE_BinOp, wpE_UnaryOp, wpE_BoolOp, wpE_Compare, wpE_IfExp, wpE_Tuple, wpE_List, wpE_Meth, wpE_Call, wpE_Slice, wpE_ItemN, wpE_ItemB, wpE_ItemK, wpE_ItemU, wpE_ItemC, wpE_CompN, wpE_Comp1, compK, wpL_nil, wpL_cons, wpO_none, wpO_some, wpB_one, wpB_cons, wpIf_nil, wpIf_cons, wpH, wpTry, notSet_N, notSet_C, notSet_K, notSet_S, notSet_B, notSet_L, notCompB_C, plain_nil, plain_N, plain_C, plain_K, plain_S, plain_B, plain_L, meth_N, meth_K, const_int, const_str, const_bool, const_none, raise_lit, headOf_range, headOf_rev, headOf_name, tgt_plain, tgt_range, tgt_rev, bind_cmp, bs_local, bs_cell, isHead_range, isHead_rev, ok_plain, ok_range, ok_rev, head_plain, head_range, nameS_cmp, ks_local, ks_cell, ks_free, ks_glob, cY, oY, cB, oB, ge_SMALL, ge_GREAT, ge_range, ge_reversed, ge_letter_back, ge__law_back, c_is_word, c_need_word, c_letter_back, c_shortened, c_turned, c_short, c_back, c_times, c__law_cell, c__law_mixed, c__law_letters, c__law_back, c__law_word, c__law_turned, c__law_taken_out, c__law_called, c__law_refused, c__law_is, o_is_word, o_need_word, o_letter_back, o_shortened, o_turned, o_short, o_back, o_times, o__law_cell, o__law_mixed, o__law_letters, o__law_back, o__law_word, o__law_turned, o__law_taken_out, o__law_called, o__law_refused, o__law_is, D01_G, D01_ge, D01_lvl, lookup_lit, String.reduceBEq, String.reduceEq, decide_true, decide_false, ofString_inj, bindR, List.zip, List.zipWith, List.zip_cons_cons, List.zip_nil_left, List.zip_nil_right, set_lit, if_true, if_false, ite_true, ite_false, Option.some.injEq, exists_eq_left', exists_eq_left, true_and, and_true, Option.isSome_some, Option.isSome_none, reduceCtorEq, or_true, true_or, or_false, false_or, List.isEmpty_nil, List.isEmpty_cons, beq_self_eq_true, Bool.and_true, Bool.true_and, List.length_cons, List.length_nil, Nat.reduceAdd, Nat.reduceLT, Nat.reduceLeDiff, Nat.reduceEqDiff, Nat.reduceBEq, decide_eq_true_eq, Bool.false_eq_true, Option.isNone_none, Bool.true_eq_false, ne_eq, not_true_eq_false, not_false_eq_true, true_implies, Prod.mk.injEq, and_self, Bool.or_false, Bool.or_true, Bool.false_or, Bool.true_or, List.cons.injEq, V.bool.injEq, V.int.injEq, retQ, V.typ.injEq, V.ref.injEq, V.str.injEq, and_assoc, exists_and_left, not_false_eq_true, Bool.not_eq_true, Bool.not_eq_false, cmpS, unS_not, unS_neg, add_int, sub_int, mul_int, div_int, mod_int, iter_S, rev_S, l28__law_script, s28__law_script, l28__law_letters_here, s28__law_letters_here, l28__law_word_here, s28__law_word_here, l28__law_other, s28__law_other, l28__law_due, s28__law_due, l28__law_last, s28__law_last, l28__law_both, s28__law_both, l28__law_things, s28__law_things, l28__law_thing, s28__law_thing, g28__law_letters, g28__law_cell, g28__law_word, g28__law_taken_out, g28_is_word, g28__law_is, g28_short, g28_back, g28__law_turned, g28_times, g28__law_refused, hs5, hl5, hw5, ho5, hd5, ha5, seqQ_ret]
  have hR := hW.red
  have hRl := len_red W
  have hP := hO.red
  have hPl := len_red O
  refine ⟨_, rfl, .inl ⟨W, rfl, by omega, ?_⟩⟩
  rw [List.all_eq_true.mpr hW]
  refine ⟨true, rfl, ?_⟩
  simp only [Bool.not_true, Bool.false_eq_true, if_false, beq_self_eq_true]
  refine short_ok (by omega) hW (is_ok hR hR rfl ?_)
  simp only [wpSs_nil, wpSs_cons, wpS_Return, wpS_Pass, wpS_Expr, wpS_AssignN, wpS_If, wpS_For, wpS_Raise, wpS_Try, wpE_Constant, wpE_Name, wpE_BinOp, wpE_UnaryOp, wpE_BoolOp, wpE_Compare, wpE_IfExp, wpE_Tuple, wpE_List, wpE_Meth, wpE_Call, wpE_Slice, wpE_ItemN, wpE_ItemB, wpE_ItemK, wpE_ItemU, wpE_ItemC, wpE_CompN, wpE_Comp1, compK, wpL_nil, wpL_cons, wpO_none, wpO_some, wpB_one, wpB_cons, wpIf_nil, wpIf_cons, wpH, wpTry, notSet_N, notSet_C, notSet_K, notSet_S, notSet_B, notSet_L, notCompB_C, plain_nil, plain_N, plain_C, plain_K, plain_S, plain_B, plain_L, meth_N, meth_K, const_int, const_str, const_bool, const_none, raise_lit, headOf_range, headOf_rev, headOf_name, tgt_plain, tgt_range, tgt_rev, bind_cmp, bs_local, bs_cell, isHead_range, isHead_rev, ok_plain, ok_range, ok_rev, head_plain, head_range, nameS_cmp, ks_local, ks_cell, ks_free, ks_glob, cY, oY, cB, oB, ge_SMALL, ge_GREAT, ge_range, ge_reversed, ge_letter_back, ge__law_back, c_is_word, c_need_word, c_letter_back, c_shortened, c_turned, c_short, c_back, c_times, c__law_cell, c__law_mixed, c__law_letters, c__law_back, c__law_word, c__law_turned, c__law_taken_out, c__law_called, c__law_refused, c__law_is, o_is_word, o_need_word, o_letter_back, o_shortened, o_turned, o_short, o_back, o_times, o__law_cell, o__law_mixed, o__law_letters, o__law_back, o__law_word, o__law_turned, o__law_taken_out, o__law_called, o__law_refused, o__law_is, D01_G, D01_ge, D01_lvl, lookup_lit, String.reduceBEq, String.reduceEq, decide_true, decide_false, ofString_inj, bindR, List.zip, List.zipWith, List.zip_cons_cons, List.zip_nil_left, List.zip_nil_right, set_lit, if_true, if_false, ite_true, ite_false, Option.some.injEq, exists_eq_left', exists_eq_left, true_and, and_true, Option.isSome_some, Option.isSome_none, reduceCtorEq, or_true, true_or, or_false, false_or, List.isEmpty_nil, List.isEmpty_cons, beq_self_eq_true, Bool.and_true, Bool.true_and, List.length_cons, List.length_nil, Nat.reduceAdd, Nat.reduceLT, Nat.reduceLeDiff, Nat.reduceEqDiff, Nat.reduceBEq, decide_eq_true_eq, Bool.false_eq_true, Option.isNone_none, Bool.true_eq_false, ne_eq, not_true_eq_false, not_false_eq_true, true_implies, Prod.mk.injEq, and_self, Bool.or_false, Bool.or_true, Bool.false_or, Bool.true_or, List.cons.injEq, V.bool.injEq, V.int.injEq, retQ, V.typ.injEq, V.ref.injEq, V.str.injEq, and_assoc, exists_and_left, not_false_eq_true, Bool.not_eq_true, Bool.not_eq_false, cmpS, unS_not, unS_neg, add_int, sub_int, mul_int, div_int, mod_int, iter_S, rev_S, l28__law_script, s28__law_script, l28__law_letters_here, s28__law_letters_here, l28__law_word_here, s28__law_word_here, l28__law_other, s28__law_other, l28__law_due, s28__law_due, l28__law_last, s28__law_last, l28__law_both, s28__law_both, l28__law_things, s28__law_things, l28__law_thing, s28__law_thing, g28__law_letters, g28__law_cell, g28__law_word, g28__law_taken_out, g28_is_word, g28__law_is, g28_short, g28_back, g28__law_turned, g28_times, g28__law_refused, hs5, hl5, hw5, ho5, hd5, ha5, Bool.not_true, Bool.not_false]
  refine short_ok (by omega) hR (is_ok hR.red hR (red_red W) ?_)
  simp only [wpSs_nil, wpSs_cons, wpS_Return, wpS_Pass, wpS_Expr, wpS_AssignN, wpS_If, wpS_For, wpS_Raise, wpS_Try, wpE_Constant, wpE_Name, wpE_BinOp, wpE_UnaryOp, wpE_BoolOp, wpE_Compare, wpE_IfExp, wpE_Tuple, wpE_List, wpE_Meth, wpE_Call, wpE_Slice, wpE_ItemN, wpE_ItemB, wpE_ItemK, wpE_ItemU, wpE_ItemC, wpE_CompN, wpE_Comp1, compK, wpL_nil, wpL_cons, wpO_none, wpO_some, wpB_one, wpB_cons, wpIf_nil, wpIf_cons, wpH, wpTry, notSet_N, notSet_C, notSet_K, notSet_S, notSet_B, notSet_L, notCompB_C, plain_nil, plain_N, plain_C, plain_K, plain_S, plain_B, plain_L, meth_N, meth_K, const_int, const_str, const_bool, const_none, raise_lit, headOf_range, headOf_rev, headOf_name, tgt_plain, tgt_range, tgt_rev, bind_cmp, bs_local, bs_cell, isHead_range, isHead_rev, ok_plain, ok_range, ok_rev, head_plain, head_range, nameS_cmp, ks_local, ks_cell, ks_free, ks_glob, cY, oY, cB, oB, ge_SMALL, ge_GREAT, ge_range, ge_reversed, ge_letter_back, ge__law_back, c_is_word, c_need_word, c_letter_back, c_shortened, c_turned, c_short, c_back, c_times, c__law_cell, c__law_mixed, c__law_letters, c__law_back, c__law_word, c__law_turned, c__law_taken_out, c__law_called, c__law_refused, c__law_is, o_is_word, o_need_word, o_letter_back, o_shortened, o_turned, o_short, o_back, o_times, o__law_cell, o__law_mixed, o__law_letters, o__law_back, o__law_word, o__law_turned, o__law_taken_out, o__law_called, o__law_refused, o__law_is, D01_G, D01_ge, D01_lvl, lookup_lit, String.reduceBEq, String.reduceEq, decide_true, decide_false, ofString_inj, bindR, List.zip, List.zipWith, List.zip_cons_cons, List.zip_nil_left, List.zip_nil_right, set_lit, if_true, if_false, ite_true, ite_false, Option.some.injEq, exists_eq_left', exists_eq_left, true_and, and_true, Option.isSome_some, Option.isSome_none, reduceCtorEq, or_true, true_or, or_false, false_or, List.isEmpty_nil, List.isEmpty_cons, beq_self_eq_true, Bool.and_true, Bool.true_and, List.length_cons, List.length_nil, Nat.reduceAdd, Nat.reduceLT, Nat.reduceLeDiff, Nat.reduceEqDiff, Nat.reduceBEq, decide_eq_true_eq, Bool.false_eq_true, Option.isNone_none, Bool.true_eq_false, ne_eq, not_true_eq_false, not_false_eq_true, true_implies, Prod.mk.injEq, and_self, Bool.or_false, Bool.or_true, Bool.false_or, Bool.true_or, List.cons.injEq, V.bool.injEq, V.int.injEq, retQ, V.typ.injEq, V.ref.injEq, V.str.injEq, and_assoc, exists_and_left, not_false_eq_true, Bool.not_eq_true, Bool.not_eq_false, cmpS, unS_not, unS_neg, add_int, sub_int, mul_int, div_int, mod_int, iter_S, rev_S, l28__law_script, s28__law_script, l28__law_letters_here, s28__law_letters_here, l28__law_word_here, s28__law_word_here, l28__law_other, s28__law_other, l28__law_due, s28__law_due, l28__law_last, s28__law_last, l28__law_both, s28__law_both, l28__law_things, s28__law_things, l28__law_thing, s28__law_thing, g28__law_letters, g28__law_cell, g28__law_word, g28__law_taken_out, g28_is_word, g28__law_is, g28_short, g28_back, g28__law_turned, g28_times, g28__law_refused, hs5, hl5, hw5, ho5, hd5, ha5, Bool.not_true, Bool.not_false]
  refine seqQ_next (wp_cons ?_)
  simp only [wpSs_nil, wpSs_cons, wpS_Return, wpS_Pass, wpS_Expr, wpS_AssignN, wpS_If, wpS_For, wpS_Raise, wpS_Try, wpE_Constant, wpE_Name, wpE_BinOp, wpE_UnaryOp, wpE_BoolOp, wpE_Compare, wpE_IfExp, wpE_Tuple, wpE_List, wpE_Meth, wpE_Call, wpE_Slice, wpE_ItemN, wpE_ItemB, wpE_ItemK, wpE_ItemU, wpE_ItemC, wpE_CompN, wpE_Comp1, compK, wpL_nil, wpL_cons, wpO_none, wpO_some, wpB_one, wpB_cons, wpIf_nil, wpIf_cons, wpH, wpTry, notSet_N, notSet_C, notSet_K, notSet_S, notSet_B, notSet_L, notCompB_C, plain_nil, plain_N, plain_C, plain_K, plain_S, plain_B, plain_L, meth_N, meth_K, const_int, const_str, const_bool, const_none, raise_lit, headOf_range, headOf_rev, headOf_name, tgt_plain, tgt_range, tgt_rev, bind_cmp, bs_local, bs_cell, isHead_range, isHead_rev, ok_plain, ok_range, ok_rev, head_plain, head_range, nameS_cmp, ks_local, ks_cell, ks_free, ks_glob, cY, oY, cB, oB, ge_SMALL, ge_GREAT, ge_range, ge_reversed, ge_letter_back, ge__law_back, c_is_word, c_need_word, c_letter_back, c_shortened, c_turned, c_short, c_back, c_times, c__law_cell, c__law_mixed, c__law_letters, c__law_back, c__law_word, c__law_turned, c__law_taken_out, c__law_called, c__law_refused, c__law_is, o_is_word, o_need_word, o_letter_back, o_shortened, o_turned, o_short, o_back, o_times, o__law_cell, o__law_mixed, o__law_letters, o__law_back, o__law_word, o__law_turned, o__law_taken_out, o__law_called, o__law_refused, o__law_is, D01_G, D01_ge, D01_lvl, lookup_lit, String.reduceBEq, String.reduceEq, decide_true, decide_false, ofString_inj, bindR, List.zip, List.zipWith, List.zip_cons_cons, List.zip_nil_left, List.zip_nil_right, set_lit, if_true, if_false, ite_true, ite_false, Option.some.injEq, exists_eq_left', exists_eq_left, true_and, and_true, Option.isSome_some, Option.isSome_none, reduceCtorEq, or_true, true_or, or_false, false_or, List.isEmpty_nil, List.isEmpty_cons, beq_self_eq_true, Bool.and_true, Bool.true_and, List.length_cons, List.length_nil, Nat.reduceAdd, Nat.reduceLT, Nat.reduceLeDiff, Nat.reduceEqDiff, Nat.reduceBEq, decide_eq_true_eq, Bool.false_eq_true, Option.isNone_none, Bool.true_eq_false, ne_eq, not_true_eq_false, not_false_eq_true, true_implies, Prod.mk.injEq, and_self, Bool.or_false, Bool.or_true, Bool.false_or, Bool.true_or, List.cons.injEq, V.bool.injEq, V.int.injEq, retQ, V.typ.injEq, V.ref.injEq, V.str.injEq, and_assoc, exists_and_left, not_false_eq_true, Bool.not_eq_true, Bool.not_eq_false, cmpS, unS_not, unS_neg, add_int, sub_int, mul_int, div_int, mod_int, iter_S, rev_S, l28__law_script, s28__law_script, l28__law_letters_here, s28__law_letters_here, l28__law_word_here, s28__law_word_here, l28__law_other, s28__law_other, l28__law_due, s28__law_due, l28__law_last, s28__law_last, l28__law_both, s28__law_both, l28__law_things, s28__law_things, l28__law_thing, s28__law_thing, g28__law_letters, g28__law_cell, g28__law_word, g28__law_taken_out, g28_is_word, g28__law_is, g28_short, g28_back, g28__law_turned, g28_times, g28__law_refused, hs5, hl5, hw5, ho5, hd5, ha5, seqQ_ret]
  have hI := hW.ivr
  have hIl : (ivr W).length = W.length := by simp [ivr]
  have hRI := len_red (ivr W)
  refine short_ok (by omega) hW (ivr_ok (by omega) hR (is_ok hI.red hR.ivr (red_ivr hW) ?_))
  simp only [wpSs_nil, wpSs_cons, wpS_Return, wpS_Pass, wpS_Expr, wpS_AssignN, wpS_If, wpS_For, wpS_Raise, wpS_Try, wpE_Constant, wpE_Name, wpE_BinOp, wpE_UnaryOp, wpE_BoolOp, wpE_Compare, wpE_IfExp, wpE_Tuple, wpE_List, wpE_Meth, wpE_Call, wpE_Slice, wpE_ItemN, wpE_ItemB, wpE_ItemK, wpE_ItemU, wpE_ItemC, wpE_CompN, wpE_Comp1, compK, wpL_nil, wpL_cons, wpO_none, wpO_some, wpB_one, wpB_cons, wpIf_nil, wpIf_cons, wpH, wpTry, notSet_N, notSet_C, notSet_K, notSet_S, notSet_B, notSet_L, notCompB_C, plain_nil, plain_N, plain_C, plain_K, plain_S, plain_B, plain_L, meth_N, meth_K, const_int, const_str, const_bool, const_none, raise_lit, headOf_range, headOf_rev, headOf_name, tgt_plain, tgt_range, tgt_rev, bind_cmp, bs_local, bs_cell, isHead_range, isHead_rev, ok_plain, ok_range, ok_rev, head_plain, head_range, nameS_cmp, ks_local, ks_cell, ks_free, ks_glob, cY, oY, cB, oB, ge_SMALL, ge_GREAT, ge_range, ge_reversed, ge_letter_back, ge__law_back, c_is_word, c_need_word, c_letter_back, c_shortened, c_turned, c_short, c_back, c_times, c__law_cell, c__law_mixed, c__law_letters, c__law_back, c__law_word, c__law_turned, c__law_taken_out, c__law_called, c__law_refused, c__law_is, o_is_word, o_need_word, o_letter_back, o_shortened, o_turned, o_short, o_back, o_times, o__law_cell, o__law_mixed, o__law_letters, o__law_back, o__law_word, o__law_turned, o__law_taken_out, o__law_called, o__law_refused, o__law_is, D01_G, D01_ge, D01_lvl, lookup_lit, String.reduceBEq, String.reduceEq, decide_true, decide_false, ofString_inj, bindR, List.zip, List.zipWith, List.zip_cons_cons, List.zip_nil_left, List.zip_nil_right, set_lit, if_true, if_false, ite_true, ite_false, Option.some.injEq, exists_eq_left', exists_eq_left, true_and, and_true, Option.isSome_some, Option.isSome_none, reduceCtorEq, or_true, true_or, or_false, false_or, List.isEmpty_nil, List.isEmpty_cons, beq_self_eq_true, Bool.and_true, Bool.true_and, List.length_cons, List.length_nil, Nat.reduceAdd, Nat.reduceLT, Nat.reduceLeDiff, Nat.reduceEqDiff, Nat.reduceBEq, decide_eq_true_eq, Bool.false_eq_true, Option.isNone_none, Bool.true_eq_false, ne_eq, not_true_eq_false, not_false_eq_true, true_implies, Prod.mk.injEq, and_self, Bool.or_false, Bool.or_true, Bool.false_or, Bool.true_or, List.cons.injEq, V.bool.injEq, V.int.injEq, retQ, V.typ.injEq, V.ref.injEq, V.str.injEq, and_assoc, exists_and_left, not_false_eq_true, Bool.not_eq_true, Bool.not_eq_false, cmpS, unS_not, unS_neg, add_int, sub_int, mul_int, div_int, mod_int, iter_S, rev_S, l28__law_script, s28__law_script, l28__law_letters_here, s28__law_letters_here, l28__law_word_here, s28__law_word_here, l28__law_other, s28__law_other, l28__law_due, s28__law_due, l28__law_last, s28__law_last, l28__law_both, s28__law_both, l28__law_things, s28__law_things, l28__law_thing, s28__law_thing, g28__law_letters, g28__law_cell, g28__law_word, g28__law_taken_out, g28_is_word, g28__law_is, g28_short, g28_back, g28__law_turned, g28_times, g28__law_refused, hs5, hl5, hw5, ho5, hd5, ha5, Bool.not_true, Bool.not_false]
  refine short_ok (by omega) hW (short_ok (by omega) hI.red (is_ok hI.red.ivr.red hR ?_ ?_))
  · rw [red_ivr hI.red, red_red, red_ivr hW, ivr_ivr hR]
  simp only [wpSs_nil, wpSs_cons, wpS_Return, wpS_Pass, wpS_Expr, wpS_AssignN, wpS_If, wpS_For, wpS_Raise, wpS_Try, wpE_Constant, wpE_Name, wpE_BinOp, wpE_UnaryOp, wpE_BoolOp, wpE_Compare, wpE_IfExp, wpE_Tuple, wpE_List, wpE_Meth, wpE_Call, wpE_Slice, wpE_ItemN, wpE_ItemB, wpE_ItemK, wpE_ItemU, wpE_ItemC, wpE_CompN, wpE_Comp1, compK, wpL_nil, wpL_cons, wpO_none, wpO_some, wpB_one, wpB_cons, wpIf_nil, wpIf_cons, wpH, wpTry, notSet_N, notSet_C, notSet_K, notSet_S, notSet_B, notSet_L, notCompB_C, plain_nil, plain_N, plain_C, plain_K, plain_S, plain_B, plain_L, meth_N, meth_K, const_int, const_str, const_bool, const_none, raise_lit, headOf_range, headOf_rev, headOf_name, tgt_plain, tgt_range, tgt_rev, bind_cmp, bs_local, bs_cell, isHead_range, isHead_rev, ok_plain, ok_range, ok_rev, head_plain, head_range, nameS_cmp, ks_local, ks_cell, ks_free, ks_glob, cY, oY, cB, oB, ge_SMALL, ge_GREAT, ge_range, ge_reversed, ge_letter_back, ge__law_back, c_is_word, c_need_word, c_letter_back, c_shortened, c_turned, c_short, c_back, c_times, c__law_cell, c__law_mixed, c__law_letters, c__law_back, c__law_word, c__law_turned, c__law_taken_out, c__law_called, c__law_refused, c__law_is, o_is_word, o_need_word, o_letter_back, o_shortened, o_turned, o_short, o_back, o_times, o__law_cell, o__law_mixed, o__law_letters, o__law_back, o__law_word, o__law_turned, o__law_taken_out, o__law_called, o__law_refused, o__law_is, D01_G, D01_ge, D01_lvl, lookup_lit, String.reduceBEq, String.reduceEq, decide_true, decide_false, ofString_inj, bindR, List.zip, List.zipWith, List.zip_cons_cons, List.zip_nil_left, List.zip_nil_right, set_lit, if_true, if_false, ite_true, ite_false, Option.some.injEq, exists_eq_left', exists_eq_left, true_and, and_true, Option.isSome_some, Option.isSome_none, reduceCtorEq, or_true, true_or, or_false, false_or, List.isEmpty_nil, List.isEmpty_cons, beq_self_eq_true, Bool.and_true, Bool.true_and, List.length_cons, List.length_nil, Nat.reduceAdd, Nat.reduceLT, Nat.reduceLeDiff, Nat.reduceEqDiff, Nat.reduceBEq, decide_eq_true_eq, Bool.false_eq_true, Option.isNone_none, Bool.true_eq_false, ne_eq, not_true_eq_false, not_false_eq_true, true_implies, Prod.mk.injEq, and_self, Bool.or_false, Bool.or_true, Bool.false_or, Bool.true_or, List.cons.injEq, V.bool.injEq, V.int.injEq, retQ, V.typ.injEq, V.ref.injEq, V.str.injEq, and_assoc, exists_and_left, not_false_eq_true, Bool.not_eq_true, Bool.not_eq_false, cmpS, unS_not, unS_neg, add_int, sub_int, mul_int, div_int, mod_int, iter_S, rev_S, l28__law_script, s28__law_script, l28__law_letters_here, s28__law_letters_here, l28__law_word_here, s28__law_word_here, l28__law_other, s28__law_other, l28__law_due, s28__law_due, l28__law_last, s28__law_last, l28__law_both, s28__law_both, l28__law_things, s28__law_things, l28__law_thing, s28__law_thing, g28__law_letters, g28__law_cell, g28__law_word, g28__law_taken_out, g28_is_word, g28__law_is, g28_short, g28_back, g28__law_turned, g28_times, g28__law_refused, hs5, hl5, hw5, ho5, hd5, ha5, Bool.not_true, Bool.not_false]
  refine seqQ_next (wp_cons ?_)
  simp only [wpSs_nil, wpSs_cons, wpS_Return, wpS_Pass, wpS_Expr, wpS_AssignN, wpS_If, wpS_For, wpS_Raise, wpS_Try, wpE_Constant, wpE_Name, wpE_BinOp, wpE_UnaryOp, wpE_BoolOp, wpE_Compare, wpE_IfExp, wpE_Tuple, wpE_List, wpE_Meth, wpE_Call, wpE_Slice, wpE_ItemN, wpE_ItemB, wpE_ItemK, wpE_ItemU, wpE_ItemC, wpE_CompN, wpE_Comp1, compK, wpL_nil, wpL_cons, wpO_none, wpO_some, wpB_one, wpB_cons, wpIf_nil, wpIf_cons, wpH, wpTry, notSet_N, notSet_C, notSet_K, notSet_S, notSet_B, notSet_L, notCompB_C, plain_nil, plain_N, plain_C, plain_K, plain_S, plain_B, plain_L, meth_N, meth_K, const_int, const_str, const_bool, const_none, raise_lit, headOf_range, headOf_rev, headOf_name, tgt_plain, tgt_range, tgt_rev, bind_cmp, bs_local, bs_cell, isHead_range, isHead_rev, ok_plain, ok_range, ok_rev, head_plain, head_range, nameS_cmp, ks_local, ks_cell, ks_free, ks_glob, cY, oY, cB, oB, ge_SMALL, ge_GREAT, ge_range, ge_reversed, ge_letter_back, ge__law_back, c_is_word, c_need_word, c_letter_back, c_shortened, c_turned, c_short, c_back, c_times, c__law_cell, c__law_mixed, c__law_letters, c__law_back, c__law_word, c__law_turned, c__law_taken_out, c__law_called, c__law_refused, c__law_is, o_is_word, o_need_word, o_letter_back, o_shortened, o_turned, o_short, o_back, o_times, o__law_cell, o__law_mixed, o__law_letters, o__law_back, o__law_word, o__law_turned, o__law_taken_out, o__law_called, o__law_refused, o__law_is, D01_G, D01_ge, D01_lvl, lookup_lit, String.reduceBEq, String.reduceEq, decide_true, decide_false, ofString_inj, bindR, List.zip, List.zipWith, List.zip_cons_cons, List.zip_nil_left, List.zip_nil_right, set_lit, if_true, if_false, ite_true, ite_false, Option.some.injEq, exists_eq_left', exists_eq_left, true_and, and_true, Option.isSome_some, Option.isSome_none, reduceCtorEq, or_true, true_or, or_false, false_or, List.isEmpty_nil, List.isEmpty_cons, beq_self_eq_true, Bool.and_true, Bool.true_and, List.length_cons, List.length_nil, Nat.reduceAdd, Nat.reduceLT, Nat.reduceLeDiff, Nat.reduceEqDiff, Nat.reduceBEq, decide_eq_true_eq, Bool.false_eq_true, Option.isNone_none, Bool.true_eq_false, ne_eq, not_true_eq_false, not_false_eq_true, true_implies, Prod.mk.injEq, and_self, Bool.or_false, Bool.or_true, Bool.false_or, Bool.true_or, List.cons.injEq, V.bool.injEq, V.int.injEq, retQ, V.typ.injEq, V.ref.injEq, V.str.injEq, and_assoc, exists_and_left, not_false_eq_true, Bool.not_eq_true, Bool.not_eq_false, cmpS, unS_not, unS_neg, add_int, sub_int, mul_int, div_int, mod_int, iter_S, rev_S, l28__law_script, s28__law_script, l28__law_letters_here, s28__law_letters_here, l28__law_word_here, s28__law_word_here, l28__law_other, s28__law_other, l28__law_due, s28__law_due, l28__law_last, s28__law_last, l28__law_both, s28__law_both, l28__law_things, s28__law_things, l28__law_thing, s28__law_thing, g28__law_letters, g28__law_cell, g28__law_word, g28__law_taken_out, g28_is_word, g28__law_is, g28_short, g28_back, g28__law_turned, g28_times, g28__law_refused, hs5, hl5, hw5, ho5, hd5, ha5, seqQ_ret]
  have hWO := hW.append hO
  have hWOl := len_red (W ++ O)
  have hz : sizeLine = 16777216 := rfl
  refine add_S (by omega) (cell_ok hG 6 (by omega) fun i => taken_ok (by simp; omega) hWO (next_set fun ρ6 e6 n6 => ?_))
  have hs6 := (n6 _ (neL (a := "_law_script") (b := "_law_both") (by decide))).trans hs5
  have hl6 := (n6 _ (neL (a := "_law_letters_here") (b := "_law_both") (by decide))).trans hl5
  have hw6 := (n6 _ (neL (a := "_law_word_here") (b := "_law_both") (by decide))).trans hw5
  have ho6 := (n6 _ (neL (a := "_law_other") (b := "_law_both") (by decide))).trans ho5
  have hd6 := (n6 _ (neL (a := "_law_due") (b := "_law_both") (by decide))).trans hd5
  have ha6 := (n6 _ (neL (a := "_law_last") (b := "_law_both") (by decide))).trans ha5
  have hb6 := e6
  clear n6 e6 hs5 hl5 hw5 ho5 hd5 ha5
  refine wp_cons ?_
  simp only [wpSs_nil, wpSs_cons, wpS_Return, wpS_Pass, wpS_Expr, wpS_AssignN, wpS_If, wpS_For, wpS_Raise, wpS_Try, wpE_Constant, wpE_Name, wpE_BinOp, wpE_UnaryOp, wpE_BoolOp, wpE_Compare, wpE_IfExp, wpE_Tuple, wpE_List, wpE_Meth, wpE_Call, wpE_Slice, wpE_ItemN, wpE_ItemB, wpE_ItemK, wpE_ItemU, wpE_ItemC, wpE_CompN, wpE_Comp1, compK, wpL_nil, wpL_cons, wpO_none, wpO_some, wpB_one, wpB_cons, wpIf_nil, wpIf_cons, wpH, wpTry, notSet_N, notSet_C, notSet_K, notSet_S, notSet_B, notSet_L, notCompB_C, plain_nil, plain_N, plain_C, plain_K, plain_S, plain_B, plain_L, meth_N, meth_K, const_int, const_str, const_bool, const_none, raise_lit, headOf_range, headOf_rev, headOf_name, tgt_plain, tgt_range, tgt_rev, bind_cmp, bs_local, bs_cell, isHead_range, isHead_rev, ok_plain, ok_range, ok_rev, head_plain, head_range, nameS_cmp, ks_local, ks_cell, ks_free, ks_glob, cY, oY, cB, oB, ge_SMALL, ge_GREAT, ge_range, ge_reversed, ge_letter_back, ge__law_back, c_is_word, c_need_word, c_letter_back, c_shortened, c_turned, c_short, c_back, c_times, c__law_cell, c__law_mixed, c__law_letters, c__law_back, c__law_word, c__law_turned, c__law_taken_out, c__law_called, c__law_refused, c__law_is, o_is_word, o_need_word, o_letter_back, o_shortened, o_turned, o_short, o_back, o_times, o__law_cell, o__law_mixed, o__law_letters, o__law_back, o__law_word, o__law_turned, o__law_taken_out, o__law_called, o__law_refused, o__law_is, D01_G, D01_ge, D01_lvl, lookup_lit, String.reduceBEq, String.reduceEq, decide_true, decide_false, ofString_inj, bindR, List.zip, List.zipWith, List.zip_cons_cons, List.zip_nil_left, List.zip_nil_right, set_lit, if_true, if_false, ite_true, ite_false, Option.some.injEq, exists_eq_left', exists_eq_left, true_and, and_true, Option.isSome_some, Option.isSome_none, reduceCtorEq, or_true, true_or, or_false, false_or, List.isEmpty_nil, List.isEmpty_cons, beq_self_eq_true, Bool.and_true, Bool.true_and, List.length_cons, List.length_nil, Nat.reduceAdd, Nat.reduceLT, Nat.reduceLeDiff, Nat.reduceEqDiff, Nat.reduceBEq, decide_eq_true_eq, Bool.false_eq_true, Option.isNone_none, Bool.true_eq_false, ne_eq, not_true_eq_false, not_false_eq_true, true_implies, Prod.mk.injEq, and_self, Bool.or_false, Bool.or_true, Bool.false_or, Bool.true_or, List.cons.injEq, V.bool.injEq, V.int.injEq, retQ, V.typ.injEq, V.ref.injEq, V.str.injEq, and_assoc, exists_and_left, not_false_eq_true, Bool.not_eq_true, Bool.not_eq_false, cmpS, unS_not, unS_neg, add_int, sub_int, mul_int, div_int, mod_int, iter_S, rev_S, l28__law_script, s28__law_script, l28__law_letters_here, s28__law_letters_here, l28__law_word_here, s28__law_word_here, l28__law_other, s28__law_other, l28__law_due, s28__law_due, l28__law_last, s28__law_last, l28__law_both, s28__law_both, l28__law_things, s28__law_things, l28__law_thing, s28__law_thing, g28__law_letters, g28__law_cell, g28__law_word, g28__law_taken_out, g28_is_word, g28__law_is, g28_short, g28_back, g28__law_turned, g28_times, g28__law_refused, hs6, hl6, hw6, ho6, hd6, ha6, hb6, seqQ_ret]
  refine times_ok (by omega) hW hO (is_ok hWO.red hWO.red rfl ?_)
  simp only [wpSs_nil, wpSs_cons, wpS_Return, wpS_Pass, wpS_Expr, wpS_AssignN, wpS_If, wpS_For, wpS_Raise, wpS_Try, wpE_Constant, wpE_Name, wpE_BinOp, wpE_UnaryOp, wpE_BoolOp, wpE_Compare, wpE_IfExp, wpE_Tuple, wpE_List, wpE_Meth, wpE_Call, wpE_Slice, wpE_ItemN, wpE_ItemB, wpE_ItemK, wpE_ItemU, wpE_ItemC, wpE_CompN, wpE_Comp1, compK, wpL_nil, wpL_cons, wpO_none, wpO_some, wpB_one, wpB_cons, wpIf_nil, wpIf_cons, wpH, wpTry, notSet_N, notSet_C, notSet_K, notSet_S, notSet_B, notSet_L, notCompB_C, plain_nil, plain_N, plain_C, plain_K, plain_S, plain_B, plain_L, meth_N, meth_K, const_int, const_str, const_bool, const_none, raise_lit, headOf_range, headOf_rev, headOf_name, tgt_plain, tgt_range, tgt_rev, bind_cmp, bs_local, bs_cell, isHead_range, isHead_rev, ok_plain, ok_range, ok_rev, head_plain, head_range, nameS_cmp, ks_local, ks_cell, ks_free, ks_glob, cY, oY, cB, oB, ge_SMALL, ge_GREAT, ge_range, ge_reversed, ge_letter_back, ge__law_back, c_is_word, c_need_word, c_letter_back, c_shortened, c_turned, c_short, c_back, c_times, c__law_cell, c__law_mixed, c__law_letters, c__law_back, c__law_word, c__law_turned, c__law_taken_out, c__law_called, c__law_refused, c__law_is, o_is_word, o_need_word, o_letter_back, o_shortened, o_turned, o_short, o_back, o_times, o__law_cell, o__law_mixed, o__law_letters, o__law_back, o__law_word, o__law_turned, o__law_taken_out, o__law_called, o__law_refused, o__law_is, D01_G, D01_ge, D01_lvl, lookup_lit, String.reduceBEq, String.reduceEq, decide_true, decide_false, ofString_inj, bindR, List.zip, List.zipWith, List.zip_cons_cons, List.zip_nil_left, List.zip_nil_right, set_lit, if_true, if_false, ite_true, ite_false, Option.some.injEq, exists_eq_left', exists_eq_left, true_and, and_true, Option.isSome_some, Option.isSome_none, reduceCtorEq, or_true, true_or, or_false, false_or, List.isEmpty_nil, List.isEmpty_cons, beq_self_eq_true, Bool.and_true, Bool.true_and, List.length_cons, List.length_nil, Nat.reduceAdd, Nat.reduceLT, Nat.reduceLeDiff, Nat.reduceEqDiff, Nat.reduceBEq, decide_eq_true_eq, Bool.false_eq_true, Option.isNone_none, Bool.true_eq_false, ne_eq, not_true_eq_false, not_false_eq_true, true_implies, Prod.mk.injEq, and_self, Bool.or_false, Bool.or_true, Bool.false_or, Bool.true_or, List.cons.injEq, V.bool.injEq, V.int.injEq, retQ, V.typ.injEq, V.ref.injEq, V.str.injEq, and_assoc, exists_and_left, not_false_eq_true, Bool.not_eq_true, Bool.not_eq_false, cmpS, unS_not, unS_neg, add_int, sub_int, mul_int, div_int, mod_int, iter_S, rev_S, l28__law_script, s28__law_script, l28__law_letters_here, s28__law_letters_here, l28__law_word_here, s28__law_word_here, l28__law_other, s28__law_other, l28__law_due, s28__law_due, l28__law_last, s28__law_last, l28__law_both, s28__law_both, l28__law_things, s28__law_things, l28__law_thing, s28__law_thing, g28__law_letters, g28__law_cell, g28__law_word, g28__law_taken_out, g28_is_word, g28__law_is, g28_short, g28_back, g28__law_turned, g28_times, g28__law_refused, hs6, hl6, hw6, ho6, hd6, ha6, hb6, Bool.not_true, Bool.not_false]
  refine times_ok (by omega) hR hP (is_ok (hR.append hP).red hWO.red (red_append hW hO) ?_)
  simp only [wpSs_nil, wpSs_cons, wpS_Return, wpS_Pass, wpS_Expr, wpS_AssignN, wpS_If, wpS_For, wpS_Raise, wpS_Try, wpE_Constant, wpE_Name, wpE_BinOp, wpE_UnaryOp, wpE_BoolOp, wpE_Compare, wpE_IfExp, wpE_Tuple, wpE_List, wpE_Meth, wpE_Call, wpE_Slice, wpE_ItemN, wpE_ItemB, wpE_ItemK, wpE_ItemU, wpE_ItemC, wpE_CompN, wpE_Comp1, compK, wpL_nil, wpL_cons, wpO_none, wpO_some, wpB_one, wpB_cons, wpIf_nil, wpIf_cons, wpH, wpTry, notSet_N, notSet_C, notSet_K, notSet_S, notSet_B, notSet_L, notCompB_C, plain_nil, plain_N, plain_C, plain_K, plain_S, plain_B, plain_L, meth_N, meth_K, const_int, const_str, const_bool, const_none, raise_lit, headOf_range, headOf_rev, headOf_name, tgt_plain, tgt_range, tgt_rev, bind_cmp, bs_local, bs_cell, isHead_range, isHead_rev, ok_plain, ok_range, ok_rev, head_plain, head_range, nameS_cmp, ks_local, ks_cell, ks_free, ks_glob, cY, oY, cB, oB, ge_SMALL, ge_GREAT, ge_range, ge_reversed, ge_letter_back, ge__law_back, c_is_word, c_need_word, c_letter_back, c_shortened, c_turned, c_short, c_back, c_times, c__law_cell, c__law_mixed, c__law_letters, c__law_back, c__law_word, c__law_turned, c__law_taken_out, c__law_called, c__law_refused, c__law_is, o_is_word, o_need_word, o_letter_back, o_shortened, o_turned, o_short, o_back, o_times, o__law_cell, o__law_mixed, o__law_letters, o__law_back, o__law_word, o__law_turned, o__law_taken_out, o__law_called, o__law_refused, o__law_is, D01_G, D01_ge, D01_lvl, lookup_lit, String.reduceBEq, String.reduceEq, decide_true, decide_false, ofString_inj, bindR, List.zip, List.zipWith, List.zip_cons_cons, List.zip_nil_left, List.zip_nil_right, set_lit, if_true, if_false, ite_true, ite_false, Option.some.injEq, exists_eq_left', exists_eq_left, true_and, and_true, Option.isSome_some, Option.isSome_none, reduceCtorEq, or_true, true_or, or_false, false_or, List.isEmpty_nil, List.isEmpty_cons, beq_self_eq_true, Bool.and_true, Bool.true_and, List.length_cons, List.length_nil, Nat.reduceAdd, Nat.reduceLT, Nat.reduceLeDiff, Nat.reduceEqDiff, Nat.reduceBEq, decide_eq_true_eq, Bool.false_eq_true, Option.isNone_none, Bool.true_eq_false, ne_eq, not_true_eq_false, not_false_eq_true, true_implies, Prod.mk.injEq, and_self, Bool.or_false, Bool.or_true, Bool.false_or, Bool.true_or, List.cons.injEq, V.bool.injEq, V.int.injEq, retQ, V.typ.injEq, V.ref.injEq, V.str.injEq, and_assoc, exists_and_left, not_false_eq_true, Bool.not_eq_true, Bool.not_eq_false, cmpS, unS_not, unS_neg, add_int, sub_int, mul_int, div_int, mod_int, iter_S, rev_S, l28__law_script, s28__law_script, l28__law_letters_here, s28__law_letters_here, l28__law_word_here, s28__law_word_here, l28__law_other, s28__law_other, l28__law_due, s28__law_due, l28__law_last, s28__law_last, l28__law_both, s28__law_both, l28__law_things, s28__law_things, l28__law_thing, s28__law_thing, g28__law_letters, g28__law_cell, g28__law_word, g28__law_taken_out, g28_is_word, g28__law_is, g28_short, g28_back, g28__law_turned, g28_times, g28__law_refused, hs6, hl6, hw6, ho6, hd6, ha6, hb6, Bool.not_true, Bool.not_false]
  refine seqQ_next (wp_cons ?_)
  simp only [wpSs_nil, wpSs_cons, wpS_Return, wpS_Pass, wpS_Expr, wpS_AssignN, wpS_If, wpS_For, wpS_Raise, wpS_Try, wpE_Constant, wpE_Name, wpE_BinOp, wpE_UnaryOp, wpE_BoolOp, wpE_Compare, wpE_IfExp, wpE_Tuple, wpE_List, wpE_Meth, wpE_Call, wpE_Slice, wpE_ItemN, wpE_ItemB, wpE_ItemK, wpE_ItemU, wpE_ItemC, wpE_CompN, wpE_Comp1, compK, wpL_nil, wpL_cons, wpO_none, wpO_some, wpB_one, wpB_cons, wpIf_nil, wpIf_cons, wpH, wpTry, notSet_N, notSet_C, notSet_K, notSet_S, notSet_B, notSet_L, notCompB_C, plain_nil, plain_N, plain_C, plain_K, plain_S, plain_B, plain_L, meth_N, meth_K, const_int, const_str, const_bool, const_none, raise_lit, headOf_range, headOf_rev, headOf_name, tgt_plain, tgt_range, tgt_rev, bind_cmp, bs_local, bs_cell, isHead_range, isHead_rev, ok_plain, ok_range, ok_rev, head_plain, head_range, nameS_cmp, ks_local, ks_cell, ks_free, ks_glob, cY, oY, cB, oB, ge_SMALL, ge_GREAT, ge_range, ge_reversed, ge_letter_back, ge__law_back, c_is_word, c_need_word, c_letter_back, c_shortened, c_turned, c_short, c_back, c_times, c__law_cell, c__law_mixed, c__law_letters, c__law_back, c__law_word, c__law_turned, c__law_taken_out, c__law_called, c__law_refused, c__law_is, o_is_word, o_need_word, o_letter_back, o_shortened, o_turned, o_short, o_back, o_times, o__law_cell, o__law_mixed, o__law_letters, o__law_back, o__law_word, o__law_turned, o__law_taken_out, o__law_called, o__law_refused, o__law_is, D01_G, D01_ge, D01_lvl, lookup_lit, String.reduceBEq, String.reduceEq, decide_true, decide_false, ofString_inj, bindR, List.zip, List.zipWith, List.zip_cons_cons, List.zip_nil_left, List.zip_nil_right, set_lit, if_true, if_false, ite_true, ite_false, Option.some.injEq, exists_eq_left', exists_eq_left, true_and, and_true, Option.isSome_some, Option.isSome_none, reduceCtorEq, or_true, true_or, or_false, false_or, List.isEmpty_nil, List.isEmpty_cons, beq_self_eq_true, Bool.and_true, Bool.true_and, List.length_cons, List.length_nil, Nat.reduceAdd, Nat.reduceLT, Nat.reduceLeDiff, Nat.reduceEqDiff, Nat.reduceBEq, decide_eq_true_eq, Bool.false_eq_true, Option.isNone_none, Bool.true_eq_false, ne_eq, not_true_eq_false, not_false_eq_true, true_implies, Prod.mk.injEq, and_self, Bool.or_false, Bool.or_true, Bool.false_or, Bool.true_or, List.cons.injEq, V.bool.injEq, V.int.injEq, retQ, V.typ.injEq, V.ref.injEq, V.str.injEq, and_assoc, exists_and_left, not_false_eq_true, Bool.not_eq_true, Bool.not_eq_false, cmpS, unS_not, unS_neg, add_int, sub_int, mul_int, div_int, mod_int, iter_S, rev_S, l28__law_script, s28__law_script, l28__law_letters_here, s28__law_letters_here, l28__law_word_here, s28__law_word_here, l28__law_other, s28__law_other, l28__law_due, s28__law_due, l28__law_last, s28__law_last, l28__law_both, s28__law_both, l28__law_things, s28__law_things, l28__law_thing, s28__law_thing, g28__law_letters, g28__law_cell, g28__law_word, g28__law_taken_out, g28_is_word, g28__law_is, g28_short, g28_back, g28__law_turned, g28_times, g28__law_refused, hs6, hl6, hw6, ho6, hd6, ha6, hb6, seqQ_ret, nil_S]
  refine ivr_ok (by omega) hW (times_ok (by omega) hW hI (is_ok (hW.append hI).red Ls.nil (red_inverse hW) ?_))
  simp only [wpSs_nil, wpSs_cons, wpS_Return, wpS_Pass, wpS_Expr, wpS_AssignN, wpS_If, wpS_For, wpS_Raise, wpS_Try, wpE_Constant, wpE_Name, wpE_BinOp, wpE_UnaryOp, wpE_BoolOp, wpE_Compare, wpE_IfExp, wpE_Tuple, wpE_List, wpE_Meth, wpE_Call, wpE_Slice, wpE_ItemN, wpE_ItemB, wpE_ItemK, wpE_ItemU, wpE_ItemC, wpE_CompN, wpE_Comp1, compK, wpL_nil, wpL_cons, wpO_none, wpO_some, wpB_one, wpB_cons, wpIf_nil, wpIf_cons, wpH, wpTry, notSet_N, notSet_C, notSet_K, notSet_S, notSet_B, notSet_L, notCompB_C, plain_nil, plain_N, plain_C, plain_K, plain_S, plain_B, plain_L, meth_N, meth_K, const_int, const_str, const_bool, const_none, raise_lit, headOf_range, headOf_rev, headOf_name, tgt_plain, tgt_range, tgt_rev, bind_cmp, bs_local, bs_cell, isHead_range, isHead_rev, ok_plain, ok_range, ok_rev, head_plain, head_range, nameS_cmp, ks_local, ks_cell, ks_free, ks_glob, cY, oY, cB, oB, ge_SMALL, ge_GREAT, ge_range, ge_reversed, ge_letter_back, ge__law_back, c_is_word, c_need_word, c_letter_back, c_shortened, c_turned, c_short, c_back, c_times, c__law_cell, c__law_mixed, c__law_letters, c__law_back, c__law_word, c__law_turned, c__law_taken_out, c__law_called, c__law_refused, c__law_is, o_is_word, o_need_word, o_letter_back, o_shortened, o_turned, o_short, o_back, o_times, o__law_cell, o__law_mixed, o__law_letters, o__law_back, o__law_word, o__law_turned, o__law_taken_out, o__law_called, o__law_refused, o__law_is, D01_G, D01_ge, D01_lvl, lookup_lit, String.reduceBEq, String.reduceEq, decide_true, decide_false, ofString_inj, bindR, List.zip, List.zipWith, List.zip_cons_cons, List.zip_nil_left, List.zip_nil_right, set_lit, if_true, if_false, ite_true, ite_false, Option.some.injEq, exists_eq_left', exists_eq_left, true_and, and_true, Option.isSome_some, Option.isSome_none, reduceCtorEq, or_true, true_or, or_false, false_or, List.isEmpty_nil, List.isEmpty_cons, beq_self_eq_true, Bool.and_true, Bool.true_and, List.length_cons, List.length_nil, Nat.reduceAdd, Nat.reduceLT, Nat.reduceLeDiff, Nat.reduceEqDiff, Nat.reduceBEq, decide_eq_true_eq, Bool.false_eq_true, Option.isNone_none, Bool.true_eq_false, ne_eq, not_true_eq_false, not_false_eq_true, true_implies, Prod.mk.injEq, and_self, Bool.or_false, Bool.or_true, Bool.false_or, Bool.true_or, List.cons.injEq, V.bool.injEq, V.int.injEq, retQ, V.typ.injEq, V.ref.injEq, V.str.injEq, and_assoc, exists_and_left, not_false_eq_true, Bool.not_eq_true, Bool.not_eq_false, cmpS, unS_not, unS_neg, add_int, sub_int, mul_int, div_int, mod_int, iter_S, rev_S, l28__law_script, s28__law_script, l28__law_letters_here, s28__law_letters_here, l28__law_word_here, s28__law_word_here, l28__law_other, s28__law_other, l28__law_due, s28__law_due, l28__law_last, s28__law_last, l28__law_both, s28__law_both, l28__law_things, s28__law_things, l28__law_thing, s28__law_thing, g28__law_letters, g28__law_cell, g28__law_word, g28__law_taken_out, g28_is_word, g28__law_is, g28_short, g28_back, g28__law_turned, g28_times, g28__law_refused, hs6, hl6, hw6, ho6, hd6, ha6, hb6, Bool.not_true, Bool.not_false]
  refine short_ok (by omega) hW (times_ok (by omega) hI.red hW (is_ok (hI.red.append hW).red Ls.nil ?_ ?_))
  · rw [red_append_left hI]
    have := red_inverse hI
    rwa [ivr_ivr hW] at this
  simp only [wpSs_nil, wpSs_cons, wpS_Return, wpS_Pass, wpS_Expr, wpS_AssignN, wpS_If, wpS_For, wpS_Raise, wpS_Try, wpE_Constant, wpE_Name, wpE_BinOp, wpE_UnaryOp, wpE_BoolOp, wpE_Compare, wpE_IfExp, wpE_Tuple, wpE_List, wpE_Meth, wpE_Call, wpE_Slice, wpE_ItemN, wpE_ItemB, wpE_ItemK, wpE_ItemU, wpE_ItemC, wpE_CompN, wpE_Comp1, compK, wpL_nil, wpL_cons, wpO_none, wpO_some, wpB_one, wpB_cons, wpIf_nil, wpIf_cons, wpH, wpTry, notSet_N, notSet_C, notSet_K, notSet_S, notSet_B, notSet_L, notCompB_C, plain_nil, plain_N, plain_C, plain_K, plain_S, plain_B, plain_L, meth_N, meth_K, const_int, const_str, const_bool, const_none, raise_lit, headOf_range, headOf_rev, headOf_name, tgt_plain, tgt_range, tgt_rev, bind_cmp, bs_local, bs_cell, isHead_range, isHead_rev, ok_plain, ok_range, ok_rev, head_plain, head_range, nameS_cmp, ks_local, ks_cell, ks_free, ks_glob, cY, oY, cB, oB, ge_SMALL, ge_GREAT, ge_range, ge_reversed, ge_letter_back, ge__law_back, c_is_word, c_need_word, c_letter_back, c_shortened, c_turned, c_short, c_back, c_times, c__law_cell, c__law_mixed, c__law_letters, c__law_back, c__law_word, c__law_turned, c__law_taken_out, c__law_called, c__law_refused, c__law_is, o_is_word, o_need_word, o_letter_back, o_shortened, o_turned, o_short, o_back, o_times, o__law_cell, o__law_mixed, o__law_letters, o__law_back, o__law_word, o__law_turned, o__law_taken_out, o__law_called, o__law_refused, o__law_is, D01_G, D01_ge, D01_lvl, lookup_lit, String.reduceBEq, String.reduceEq, decide_true, decide_false, ofString_inj, bindR, List.zip, List.zipWith, List.zip_cons_cons, List.zip_nil_left, List.zip_nil_right, set_lit, if_true, if_false, ite_true, ite_false, Option.some.injEq, exists_eq_left', exists_eq_left, true_and, and_true, Option.isSome_some, Option.isSome_none, reduceCtorEq, or_true, true_or, or_false, false_or, List.isEmpty_nil, List.isEmpty_cons, beq_self_eq_true, Bool.and_true, Bool.true_and, List.length_cons, List.length_nil, Nat.reduceAdd, Nat.reduceLT, Nat.reduceLeDiff, Nat.reduceEqDiff, Nat.reduceBEq, decide_eq_true_eq, Bool.false_eq_true, Option.isNone_none, Bool.true_eq_false, ne_eq, not_true_eq_false, not_false_eq_true, true_implies, Prod.mk.injEq, and_self, Bool.or_false, Bool.or_true, Bool.false_or, Bool.true_or, List.cons.injEq, V.bool.injEq, V.int.injEq, retQ, V.typ.injEq, V.ref.injEq, V.str.injEq, and_assoc, exists_and_left, not_false_eq_true, Bool.not_eq_true, Bool.not_eq_false, cmpS, unS_not, unS_neg, add_int, sub_int, mul_int, div_int, mod_int, iter_S, rev_S, l28__law_script, s28__law_script, l28__law_letters_here, s28__law_letters_here, l28__law_word_here, s28__law_word_here, l28__law_other, s28__law_other, l28__law_due, s28__law_due, l28__law_last, s28__law_last, l28__law_both, s28__law_both, l28__law_things, s28__law_things, l28__law_thing, s28__law_thing, g28__law_letters, g28__law_cell, g28__law_word, g28__law_taken_out, g28_is_word, g28__law_is, g28_short, g28_back, g28__law_turned, g28_times, g28__law_refused, hs6, hl6, hw6, ho6, hd6, ha6, hb6, Bool.not_true, Bool.not_false]
  refine seqQ_next (wp_cons ?_)
  simp only [wpSs_nil, wpSs_cons, wpS_Return, wpS_Pass, wpS_Expr, wpS_AssignN, wpS_If, wpS_For, wpS_Raise, wpS_Try, wpE_Constant, wpE_Name, wpE_BinOp, wpE_UnaryOp, wpE_BoolOp, wpE_Compare, wpE_IfExp, wpE_Tuple, wpE_List, wpE_Meth, wpE_Call, wpE_Slice, wpE_ItemN, wpE_ItemB, wpE_ItemK, wpE_ItemU, wpE_ItemC, wpE_CompN, wpE_Comp1, compK, wpL_nil, wpL_cons, wpO_none, wpO_some, wpB_one, wpB_cons, wpIf_nil, wpIf_cons, wpH, wpTry, notSet_N, notSet_C, notSet_K, notSet_S, notSet_B, notSet_L, notCompB_C, plain_nil, plain_N, plain_C, plain_K, plain_S, plain_B, plain_L, meth_N, meth_K, const_int, const_str, const_bool, const_none, raise_lit, headOf_range, headOf_rev, headOf_name, tgt_plain, tgt_range, tgt_rev, bind_cmp, bs_local, bs_cell, isHead_range, isHead_rev, ok_plain, ok_range, ok_rev, head_plain, head_range, nameS_cmp, ks_local, ks_cell, ks_free, ks_glob, cY, oY, cB, oB, ge_SMALL, ge_GREAT, ge_range, ge_reversed, ge_letter_back, ge__law_back, c_is_word, c_need_word, c_letter_back, c_shortened, c_turned, c_short, c_back, c_times, c__law_cell, c__law_mixed, c__law_letters, c__law_back, c__law_word, c__law_turned, c__law_taken_out, c__law_called, c__law_refused, c__law_is, o_is_word, o_need_word, o_letter_back, o_shortened, o_turned, o_short, o_back, o_times, o__law_cell, o__law_mixed, o__law_letters, o__law_back, o__law_word, o__law_turned, o__law_taken_out, o__law_called, o__law_refused, o__law_is, D01_G, D01_ge, D01_lvl, lookup_lit, String.reduceBEq, String.reduceEq, decide_true, decide_false, ofString_inj, bindR, List.zip, List.zipWith, List.zip_cons_cons, List.zip_nil_left, List.zip_nil_right, set_lit, if_true, if_false, ite_true, ite_false, Option.some.injEq, exists_eq_left', exists_eq_left, true_and, and_true, Option.isSome_some, Option.isSome_none, reduceCtorEq, or_true, true_or, or_false, false_or, List.isEmpty_nil, List.isEmpty_cons, beq_self_eq_true, Bool.and_true, Bool.true_and, List.length_cons, List.length_nil, Nat.reduceAdd, Nat.reduceLT, Nat.reduceLeDiff, Nat.reduceEqDiff, Nat.reduceBEq, decide_eq_true_eq, Bool.false_eq_true, Option.isNone_none, Bool.true_eq_false, ne_eq, not_true_eq_false, not_false_eq_true, true_implies, Prod.mk.injEq, and_self, Bool.or_false, Bool.or_true, Bool.false_or, Bool.true_or, List.cons.injEq, V.bool.injEq, V.int.injEq, retQ, V.typ.injEq, V.ref.injEq, V.str.injEq, and_assoc, exists_and_left, not_false_eq_true, Bool.not_eq_true, Bool.not_eq_false, cmpS, unS_not, unS_neg, add_int, sub_int, mul_int, div_int, mod_int, iter_S, rev_S, l28__law_script, s28__law_script, l28__law_letters_here, s28__law_letters_here, l28__law_word_here, s28__law_word_here, l28__law_other, s28__law_other, l28__law_due, s28__law_due, l28__law_last, s28__law_last, l28__law_both, s28__law_both, l28__law_things, s28__law_things, l28__law_thing, s28__law_thing, g28__law_letters, g28__law_cell, g28__law_word, g28__law_taken_out, g28_is_word, g28__law_is, g28_short, g28_back, g28__law_turned, g28_times, g28__law_refused, hs6, hl6, hw6, ho6, hd6, ha6, hb6, seqQ_ret]
  have e1 : V.str (Str.ofString "-") = S [45] := by rw [S]; congr 1
  have e2 : V.str (Str.ofString " ") = S [32] := by rw [S]; congr 1
  have e3 : V.str (Str.ofString "a b") = S [97, 32, 98] := by rw [S]; congr 1
  have e4 : V.str (Str.ofString "a1") = S [97, 49] := by rw [S]; congr 1
  have e5 : V.str (Str.ofString "\n") = S [10] := by rw [S]; congr 1
  rw [e1, e2, e3, e4, e5]
  refine add_S (by simp; omega) (add_S (by simp; omega) ?_)
  refine ⟨by omega, fun a ha => ⟨by omega, by omega, fun a2 ha2 => next_set fun ρ7 e7 n7 => ?_⟩⟩
  have hs7 := (n7 _ (neL (a := "_law_script") (b := "_law_things") (by decide))).trans hs6
  have hl7 := (n7 _ (neL (a := "_law_letters_here") (b := "_law_things") (by decide))).trans hl6
  have hw7 := (n7 _ (neL (a := "_law_word_here") (b := "_law_things") (by decide))).trans hw6
  have ho7 := (n7 _ (neL (a := "_law_other") (b := "_law_things") (by decide))).trans ho6
  have hd7 := (n7 _ (neL (a := "_law_due") (b := "_law_things") (by decide))).trans hd6
  have ha7 := (n7 _ (neL (a := "_law_last") (b := "_law_things") (by decide))).trans ha6
  have hb7 := (n7 _ (neL (a := "_law_both") (b := "_law_things") (by decide))).trans hb6
  have ht7 := e7
  clear n7 e7 hs6 hl6 hw6 ho6 hd6 ha6 hb6
  refine wp_cons ?_
  simp only [wpSs_nil, wpSs_cons, wpS_Return, wpS_Pass, wpS_Expr, wpS_AssignN, wpS_If, wpS_For, wpS_Raise, wpS_Try, wpE_Constant, wpE_Name, wpE_BinOp, wpE_UnaryOp, wpE_BoolOp, wpE_Compare, wpE_IfExp, wpE_Tuple, wpE_List, wpE_Meth, wpE_Call, wpE_Slice, wpE_ItemN, wpE_ItemB, wpE_ItemK, wpE_ItemU, wpE_ItemC, wpE_CompN, wpE_Comp1, compK, wpL_nil, wpL_cons, wpO_none, wpO_some, wpB_one, wpB_cons, wpIf_nil, wpIf_cons, wpH, wpTry, notSet_N, notSet_C, notSet_K, notSet_S, notSet_B, notSet_L, notCompB_C, plain_nil, plain_N, plain_C, plain_K, plain_S, plain_B, plain_L, meth_N, meth_K, const_int, const_str, const_bool, const_none, raise_lit, headOf_range, headOf_rev, headOf_name, tgt_plain, tgt_range, tgt_rev, bind_cmp, bs_local, bs_cell, isHead_range, isHead_rev, ok_plain, ok_range, ok_rev, head_plain, head_range, nameS_cmp, ks_local, ks_cell, ks_free, ks_glob, cY, oY, cB, oB, ge_SMALL, ge_GREAT, ge_range, ge_reversed, ge_letter_back, ge__law_back, c_is_word, c_need_word, c_letter_back, c_shortened, c_turned, c_short, c_back, c_times, c__law_cell, c__law_mixed, c__law_letters, c__law_back, c__law_word, c__law_turned, c__law_taken_out, c__law_called, c__law_refused, c__law_is, o_is_word, o_need_word, o_letter_back, o_shortened, o_turned, o_short, o_back, o_times, o__law_cell, o__law_mixed, o__law_letters, o__law_back, o__law_word, o__law_turned, o__law_taken_out, o__law_called, o__law_refused, o__law_is, D01_G, D01_ge, D01_lvl, lookup_lit, String.reduceBEq, String.reduceEq, decide_true, decide_false, ofString_inj, bindR, List.zip, List.zipWith, List.zip_cons_cons, List.zip_nil_left, List.zip_nil_right, set_lit, if_true, if_false, ite_true, ite_false, Option.some.injEq, exists_eq_left', exists_eq_left, true_and, and_true, Option.isSome_some, Option.isSome_none, reduceCtorEq, or_true, true_or, or_false, false_or, List.isEmpty_nil, List.isEmpty_cons, beq_self_eq_true, Bool.and_true, Bool.true_and, List.length_cons, List.length_nil, Nat.reduceAdd, Nat.reduceLT, Nat.reduceLeDiff, Nat.reduceEqDiff, Nat.reduceBEq, decide_eq_true_eq, Bool.false_eq_true, Option.isNone_none, Bool.true_eq_false, ne_eq, not_true_eq_false, not_false_eq_true, true_implies, Prod.mk.injEq, and_self, Bool.or_false, Bool.or_true, Bool.false_or, Bool.true_or, List.cons.injEq, V.bool.injEq, V.int.injEq, retQ, V.typ.injEq, V.ref.injEq, V.str.injEq, and_assoc, exists_and_left, not_false_eq_true, Bool.not_eq_true, Bool.not_eq_false, cmpS, unS_not, unS_neg, add_int, sub_int, mul_int, div_int, mod_int, iter_S, rev_S, l28__law_script, s28__law_script, l28__law_letters_here, s28__law_letters_here, l28__law_word_here, s28__law_word_here, l28__law_other, s28__law_other, l28__law_due, s28__law_due, l28__law_last, s28__law_last, l28__law_both, s28__law_both, l28__law_things, s28__law_things, l28__law_thing, s28__law_thing, g28__law_letters, g28__law_cell, g28__law_word, g28__law_taken_out, g28_is_word, g28__law_is, g28_short, g28_back, g28__law_turned, g28_times, g28__law_refused, hs7, hl7, hw7, ho7, hd7, ha7, hb7, ht7, seqQ_ret]
  have hne : a ≠ a2 := fun e => by subst e; rw [Store.set_same] at ha2; cases ha2
  refine cell_ok hG 7 (by omega) fun i => modI (n := 10) (by omega) fun m hm => ?_
  have nL : ∀ {u : List Nat} {c : Nat}, c ∈ u → isL c = false → ¬ Ls u := fun hc hn h => by rw [h _ hc] at hn; cases hn
  obtain ⟨v, hv, hb⟩ : ∃ v, [V.none, V.int 5, V.bool true, S [97, 32, 98], S [97, 49], S (W ++ [45]), S ([32] ++ W), V.ref a, V.tup [S W], S [10]][m]? = some v ∧ Bad (((Store.set (fun x => none) r (Cell.list (List.map (fun c => S [c]) ls))).set a (Cell.list [S W])).set a2 (Cell.list [V.none, V.int 5, V.bool true, S [97, 32, 98], S [97, 49], S (W ++ [45]), S ([32] ++ W), V.ref a, V.tup [S W], S [10]])) v := by
    match m, hm with
    | 0, _ => exact ⟨_, rfl, .inr rfl⟩
    | 1, _ => exact ⟨_, rfl, .inr rfl⟩
    | 2, _ => exact ⟨_, rfl, .inr rfl⟩
    | 3, _ => exact ⟨_, rfl, .inl ⟨_, rfl, by decide, nL (c := 32) (by simp) rfl⟩⟩
    | 4, _ => exact ⟨_, rfl, .inl ⟨_, rfl, by decide, nL (c := 49) (by simp) rfl⟩⟩
    | 5, _ => exact ⟨_, rfl, .inl ⟨_, rfl, by simp; omega, nL (c := 45) (by simp) rfl⟩⟩
    | 6, _ => exact ⟨_, rfl, .inl ⟨_, rfl, by simp; omega, nL (c := 32) (by simp) rfl⟩⟩
    | 7, _ => exact ⟨_, rfl, .inr (by simp only [isInst, typeV, Store.set_ne hne, Store.set_same]; rfl)⟩
    | 8, _ => exact ⟨_, rfl, .inr rfl⟩
    | 9, _ => exact ⟨_, rfl, .inl ⟨_, rfl, by decide, nL (c := 10) (by simp) rfl⟩⟩
  refine item_list (Store.set_same ..) hv (by simp; omega) (next_set fun ρ8 e8 n8 => ?_)
  have hs8 := (n8 _ (neL (a := "_law_script") (b := "_law_thing") (by decide))).trans hs7
  have hl8 := (n8 _ (neL (a := "_law_letters_here") (b := "_law_thing") (by decide))).trans hl7
  have hw8 := (n8 _ (neL (a := "_law_word_here") (b := "_law_thing") (by decide))).trans hw7
  have ho8 := (n8 _ (neL (a := "_law_other") (b := "_law_thing") (by decide))).trans ho7
  have hd8 := (n8 _ (neL (a := "_law_due") (b := "_law_thing") (by decide))).trans hd7
  have ha8 := (n8 _ (neL (a := "_law_last") (b := "_law_thing") (by decide))).trans ha7
  have hb8 := (n8 _ (neL (a := "_law_both") (b := "_law_thing") (by decide))).trans hb7
  have ht8 := (n8 _ (neL (a := "_law_things") (b := "_law_thing") (by decide))).trans ht7
  have hg8 := e8
  clear n8 e8 hs7 hl7 hw7 ho7 hd7 ha7 hb7 ht7
  refine wp_cons ?_
  simp only [wpSs_nil, wpSs_cons, wpS_Return, wpS_Pass, wpS_Expr, wpS_AssignN, wpS_If, wpS_For, wpS_Raise, wpS_Try, wpE_Constant, wpE_Name, wpE_BinOp, wpE_UnaryOp, wpE_BoolOp, wpE_Compare, wpE_IfExp, wpE_Tuple, wpE_List, wpE_Meth, wpE_Call, wpE_Slice, wpE_ItemN, wpE_ItemB, wpE_ItemK, wpE_ItemU, wpE_ItemC, wpE_CompN, wpE_Comp1, compK, wpL_nil, wpL_cons, wpO_none, wpO_some, wpB_one, wpB_cons, wpIf_nil, wpIf_cons, wpH, wpTry, notSet_N, notSet_C, notSet_K, notSet_S, notSet_B, notSet_L, notCompB_C, plain_nil, plain_N, plain_C, plain_K, plain_S, plain_B, plain_L, meth_N, meth_K, const_int, const_str, const_bool, const_none, raise_lit, headOf_range, headOf_rev, headOf_name, tgt_plain, tgt_range, tgt_rev, bind_cmp, bs_local, bs_cell, isHead_range, isHead_rev, ok_plain, ok_range, ok_rev, head_plain, head_range, nameS_cmp, ks_local, ks_cell, ks_free, ks_glob, cY, oY, cB, oB, ge_SMALL, ge_GREAT, ge_range, ge_reversed, ge_letter_back, ge__law_back, c_is_word, c_need_word, c_letter_back, c_shortened, c_turned, c_short, c_back, c_times, c__law_cell, c__law_mixed, c__law_letters, c__law_back, c__law_word, c__law_turned, c__law_taken_out, c__law_called, c__law_refused, c__law_is, o_is_word, o_need_word, o_letter_back, o_shortened, o_turned, o_short, o_back, o_times, o__law_cell, o__law_mixed, o__law_letters, o__law_back, o__law_word, o__law_turned, o__law_taken_out, o__law_called, o__law_refused, o__law_is, D01_G, D01_ge, D01_lvl, lookup_lit, String.reduceBEq, String.reduceEq, decide_true, decide_false, ofString_inj, bindR, List.zip, List.zipWith, List.zip_cons_cons, List.zip_nil_left, List.zip_nil_right, set_lit, if_true, if_false, ite_true, ite_false, Option.some.injEq, exists_eq_left', exists_eq_left, true_and, and_true, Option.isSome_some, Option.isSome_none, reduceCtorEq, or_true, true_or, or_false, false_or, List.isEmpty_nil, List.isEmpty_cons, beq_self_eq_true, Bool.and_true, Bool.true_and, List.length_cons, List.length_nil, Nat.reduceAdd, Nat.reduceLT, Nat.reduceLeDiff, Nat.reduceEqDiff, Nat.reduceBEq, decide_eq_true_eq, Bool.false_eq_true, Option.isNone_none, Bool.true_eq_false, ne_eq, not_true_eq_false, not_false_eq_true, true_implies, Prod.mk.injEq, and_self, Bool.or_false, Bool.or_true, Bool.false_or, Bool.true_or, List.cons.injEq, V.bool.injEq, V.int.injEq, retQ, V.typ.injEq, V.ref.injEq, V.str.injEq, and_assoc, exists_and_left, not_false_eq_true, Bool.not_eq_true, Bool.not_eq_false, cmpS, unS_not, unS_neg, add_int, sub_int, mul_int, div_int, mod_int, iter_S, rev_S, l28__law_script, s28__law_script, l28__law_letters_here, s28__law_letters_here, l28__law_word_here, s28__law_word_here, l28__law_other, s28__law_other, l28__law_due, s28__law_due, l28__law_last, s28__law_last, l28__law_both, s28__law_both, l28__law_things, s28__law_things, l28__law_thing, s28__law_thing, g28__law_letters, g28__law_cell, g28__law_word, g28__law_taken_out, g28_is_word, g28__law_is, g28_short, g28_back, g28__law_turned, g28_times, g28__law_refused, hs8, hl8, hw8, ho8, hd8, ha8, hb8, ht8, hg8, seqQ_ret]
  refine isw_bad hb ⟨true, rfl, ?_⟩
  rw [if_neg (by decide)]
  refine cell_ok hG 7 (by omega) fun i => ?_
  rw [div_int]
  refine ⟨by decide, by decide, modI (n := 4) (by omega) fun q _ => refused_ok hb ⟨true, rfl, _, .refl _, rfl⟩⟩
end
end Mine

set_option linter.unusedVariables false
set_option autoImplicit false
namespace Mine
open PySem PySem.Calls PyProof.Rows PySem.W

theorem Body.use {G : Gl} {w : World} {k lvl : Nat} {names : List Str} {t : FnT} (B : Body G w k names lvl t) (h : (recAtP pw k).isSome = true) :
    ∀ args σ Q X, t args σ Q X → args.length = names.length ∧ wpSs (D01 G w lvl) (recD pw k).body (fun x => (recD pw k).scope.names.lookup x) (bindR (names.zip args) fun _ => none) σ (retQ Q) X := B _ _ _ (defAt_rec h)

section
variable {C : Cx} {q : Program} {loose : List Str} {mean : ExcName → Option Value}

theorem dm01 (hC : CxOk C) (T : Top q loose mean C.G.mg C.mb C.s0.heap) (hq : recsOf q = (List.range 29).filterMap (recAtP pw)) (hge : C.ge = ge01) : ∀ l : Nat, DmOk C (D01 C.G C.w l) := by
  intro l
  induction l with
  | zero =>
    refine ⟨rfl, rfl, hge.symm, fun f r t e hr => ?_⟩
    have hm := lookup_mem (e : (tab01 C.G).lookup f = some (r, t))
    have : ∀ x ∈ tab01 C.G, 1 ≤ x.2.1 := by
      unfold tab01; simp
    exact absurd (this _ hm) (by have : r ≤ 0 := hr; show ¬ 1 ≤ r; omega)
  | succ l ih =>
    refine ⟨rfl, rfl, hge.symm, fun f r t e hr => ?_⟩
    by_cases hl : r ≤ l
    · exact ih.fn f r t e hl
    · have hm := lookup_mem (e : (tab01 C.G).lookup f = some (r, t))
      have hr : r ≤ l + 1 := hr
      obtain rfl : r = l + 1 := by omega
      unfold tab01 at hm
      simp only [List.mem_cons, List.not_mem_nil, or_false, Prod.mk.injEq] at hm
      clear e hr hl
      rcases hm with ⟨rfl, e, rfl⟩ | ⟨rfl, e, rfl⟩ | ⟨rfl, e, rfl⟩ | ⟨rfl, e, rfl⟩ | ⟨rfl, e, rfl⟩ | ⟨rfl, e, rfl⟩ | ⟨rfl, e, rfl⟩ | ⟨rfl, e, rfl⟩ | ⟨rfl, e, rfl⟩ | ⟨rfl, e, rfl⟩ | ⟨rfl, e, rfl⟩ | ⟨rfl, e, rfl⟩ | ⟨rfl, e, rfl⟩ | ⟨rfl, e, rfl⟩ | ⟨rfl, e, rfl⟩ | ⟨rfl, e, rfl⟩ | ⟨rfl, e, rfl⟩ | ⟨rfl, e, rfl⟩
      · obtain rfl : l = 0 := by omega
        exact mkFn hC ih T hq (k := 7) (names := ["thing"]) rfl (by decide) (by kernel_rfl) (by decide +kernel) (fun pm cd doc vals hv => by obtain ⟨v1, rfl⟩ := len1 hv; kernel_rfl) ((b_is_word C.G C.w).use rfl)
      · obtain rfl : l = 1 := by omega
        exact mkFn hC ih T hq (k := 8) (names := ["thing"]) rfl (by decide) (by kernel_rfl) (by decide +kernel) (fun pm cd doc vals hv => by obtain ⟨v1, rfl⟩ := len1 hv; kernel_rfl) ((b_need_word C.G C.w).use rfl)
      · obtain rfl : l = 0 := by omega
        exact mkFn hC ih T hq (k := 9) (names := ["letter"]) rfl (by decide) (by kernel_rfl) (by decide +kernel) (fun pm cd doc vals hv => by obtain ⟨v1, rfl⟩ := len1 hv; kernel_rfl) ((b_letter_back C.G C.w).use rfl)
      · obtain rfl : l = 1 := by omega
        exact mkFn hC ih T hq (k := 10) (names := ["word"]) rfl (by decide) (by kernel_rfl) (by decide +kernel) (fun pm cd doc vals hv => by obtain ⟨v1, rfl⟩ := len1 hv; kernel_rfl) ((b_shortened C.G C.w).use rfl)
      · obtain rfl : l = 2 := by omega
        exact mkFn hC ih T hq (k := 11) (names := ["word"]) rfl (by decide) (by kernel_rfl) (by decide +kernel) (fun pm cd doc vals hv => by obtain ⟨v1, rfl⟩ := len1 hv; kernel_rfl) ((b_turned C.G C.w).use rfl)
      · obtain rfl : l = 2 := by omega
        exact mkFn hC ih T hq (k := 12) (names := ["word"]) rfl (by decide) (by kernel_rfl) (by decide +kernel) (fun pm cd doc vals hv => by obtain ⟨v1, rfl⟩ := len1 hv; kernel_rfl) ((b_short C.G C.w).use rfl)
      · obtain rfl : l = 3 := by omega
        exact mkFn hC ih T hq (k := 13) (names := ["word"]) rfl (by decide) (by kernel_rfl) (by decide +kernel) (fun pm cd doc vals hv => by obtain ⟨v1, rfl⟩ := len1 hv; kernel_rfl) ((b_back C.G C.w).use rfl)
      · obtain rfl : l = 2 := by omega
        exact mkFn hC ih T hq (k := 14) (names := ["one", "other"]) rfl (by decide) (by kernel_rfl) (by decide +kernel) (fun pm cd doc vals hv => by obtain ⟨v1, v2, rfl⟩ := len2 hv; kernel_rfl) ((b_times C.G C.w).use rfl)
      · obtain rfl : l = 0 := by omega
        exact mkFn hC ih T hq (k := 17) (names := ["_law_script", "_law_k"]) rfl (by decide) (by kernel_rfl) (by decide +kernel) (fun pm cd doc vals hv => by obtain ⟨v1, v2, rfl⟩ := len2 hv; kernel_rfl) ((b_cell C.G C.w).use rfl)
      · obtain rfl : l = 0 := by omega
        exact mkFn hC ih T hq (k := 18) (names := ["_law_cell_here", "_law_k"]) rfl (by decide) (by kernel_rfl) (by decide +kernel) (fun pm cd doc vals hv => by obtain ⟨v1, v2, rfl⟩ := len2 hv; kernel_rfl) ((b_mixed C.G C.w).use rfl)
      · obtain rfl : l = 0 := by omega
        exact mkFn hC ih T hq (k := 19) (names := ["_law_cell_here"]) rfl (by decide) (by kernel_rfl) (by decide +kernel) (fun pm cd doc vals hv => by obtain ⟨v1, rfl⟩ := len1 hv; kernel_rfl) ((b_letters C.G C.w).use rfl)
      · obtain rfl : l = 0 := by omega
        exact mkFn hC ih T hq (k := 20) (names := ["_law_letter"]) rfl (by decide) (by kernel_rfl) (by decide +kernel) (fun pm cd doc vals hv => by obtain ⟨v1, rfl⟩ := len1 hv; kernel_rfl) ((b_lback C.G C.w).use rfl)
      · obtain rfl : l = 1 := by omega
        exact mkFn hC ih T hq (k := 21) (names := ["_law_cell_here", "_law_letters_here", "_law_size"]) rfl (by decide) (by kernel_rfl) (by decide +kernel) (fun pm cd doc vals hv => by obtain ⟨v1, v2, v3, rfl⟩ := len3 hv; kernel_rfl) ((b_word C.G C.w).use rfl)
      · obtain rfl : l = 1 := by omega
        exact mkFn hC ih T hq (k := 23) (names := ["_law_word_here"]) rfl (by decide) (by kernel_rfl) (by decide +kernel) (fun pm cd doc vals hv => by obtain ⟨v1, rfl⟩ := len1 hv; kernel_rfl) ((b_lturned C.G C.w).use rfl)
      · obtain rfl : l = 1 := by omega
        exact mkFn hC ih T hq (k := 24) (names := ["_law_word_here", "_law_cell_here"]) rfl (by decide) (by kernel_rfl) (by decide +kernel) (fun pm cd doc vals hv => by obtain ⟨v1, v2, rfl⟩ := len2 hv; kernel_rfl) ((b_taken C.G C.w).use rfl)
      · obtain rfl : l = 4 := by omega
        exact mkFn hC ih T hq (k := 25) (names := ["_law_pick", "_law_thing"]) rfl (by decide) (by kernel_rfl) (by decide +kernel) (fun pm cd doc vals hv => by obtain ⟨v1, v2, rfl⟩ := len2 hv; kernel_rfl) ((b_called C.G C.w).use rfl)
      · obtain rfl : l = 5 := by omega
        exact mkFn hC ih T hq (k := 26) (names := ["_law_pick", "_law_thing"]) rfl (by decide) (by kernel_rfl) (by decide +kernel) (fun pm cd doc vals hv => by obtain ⟨v1, v2, rfl⟩ := len2 hv; kernel_rfl) ((b_refused C.G C.w).use rfl)
      · obtain rfl : l = 0 := by omega
        exact mkFn hC ih T hq (k := 27) (names := ["_law_found", "_law_due"]) rfl (by decide) (by kernel_rfl) (by decide +kernel) (fun pm cd doc vals hv => by obtain ⟨v1, v2, rfl⟩ := len2 hv; kernel_rfl) ((b_is C.G C.w).use rfl)
end
end Mine

set_option linter.unusedVariables false
set_option autoImplicit false
open PySem PySem.W PyProof.Rows
set_option Elab.async false
set_option maxRecDepth 100000 in
set_option maxHeartbeats 0 in
theorem PySem.Challenge.cw_uf030024_01_holds : PySem.Challenge.rw_uf030024_01.Holds := by
  w_on; o_law; o_head Mine.excHook; (case hw => w_witness2)
  intro w s₀ s₁ mg mb G Y fa o pm cd doc dV kV ho hd hcd hD hmg hg args vals as hpre hlay hrd hwl hlo
  refine Ground.open G ?_
  intro T B D TE TW
  wrow_args hpre hlay hrd hwl hlo
  first | refine callC_kw (enter_call ?_) | refine enter_call ?_
  w_top on
  try refine codeAny_mono ?_ (fun _ _ g => GoodW.toG g)
  w_call any ho hd hcd hD T F
  have hI := ‹IntsAre _ _›
  have hL := ‹Heap.IsList _ _ _›
  have hlen : _ ≤ 63 := Nat.not_lt.mp fun h => absurd (Int.ofNat_lt.mpr h) ‹¬ ((63 : Nat) : Int) < _›
  have hq : recsOf _ = (List.range 29).filterMap (Mine.recAtP Mine.pw) := (by kernel_rfl : recsOf PySem.Challenge.cw_uf030024_01_holds.view_39 = _)
  have hC := Mine.cx_ok (p := PySem.Challenge.rw_uf030024_01.row.prog) (ge := Mine.ge01) (consts := Mine.consts01) (bi := Mine.biTab) (defs := Mine.defNames) T Y hL hI hlen rfl (by
    intro e he
    rcases List.mem_cons.mp he with rfl | he
    · exact ⟨_, rfl, by kernel_rfl⟩
    · rcases List.mem_cons.mp he with rfl | he
      · exact ⟨_, rfl, by kernel_rfl⟩
      · cases he) (by decide +kernel) (by decide +kernel) (by kernel_rfl) (by kernel_rfl)
  have hDm := Mine.dm01 hC T hq rfl 6
  refine Mine.law_core (x := Str.ofString "_law_script") hC hDm (Nat.le_of_ble_eq_true rfl : 6 ≤ 40) F (by kernel_rfl) (by kernel_rfl) (Mine.statics_of T) rfl (Mine.noCell_of (by kernel_rfl)) (by kernel_rfl) (by kernel_rfl) (Mine.b_law _ _ hlen _ _ _ rfl) (fun h' t' hk => Mine.good_end hk hg rfl (fun _ => rfl) (by kernel_rfl))
