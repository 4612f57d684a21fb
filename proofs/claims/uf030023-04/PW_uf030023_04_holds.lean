import PyProof.Rows.All
import Open.Line
import Wide.FinOn
import PyProof.Cells
import PyProof.CompFree
import PyProof.DictKinds
import PyProof.DictList
import PyProof.DictDisplay
import PyProof.DictStraight
import PyProof.DefCall
import PyProof.Rows.Top
import PyProof.Rows.TupMore
import PyProof.NsCount
import PyProof.StationsW
import PyProof.PureInt
import PyProof.Rows.RuleB_mod
import PyProof.Rows.RuleB_floordiv
import PyProof.Rows.SeqMore
import PyProof.Rows.TupAdd
import PyProof.StrOps
import PyProof.StrLaws
import PyProof.EqAt
import PyProof.EqKinds
import PyProof.IsRules
import PyProof.Rows.Nodes
import PyProof.Rows.Chain
import PyProof.Rows.StrInSeq
import PyProof.SliceMore
import PyProof.SliceStr2
import PyProof.ListIndexNeg
import PyProof.Rows.StrTemp
import PyProof.Rows.News
import PyProof.Rows.Exc
import PyProof.Rows.Lst
import PyProof.TupleOfSeq
import PyProof.Rows.ListMade
import PyProof.Rows.MinMaxN
import PyProof.IsiPairs
import PyProof.IsiNone
import PyProof.IsiHeapPairs
import PyProof.Rows.StrJoin2
import PyProof.WalksMore
import PyProof.RangeFor
import PyProof.DictTable
import PyProof.StrCalls3
import PyProof.Rows.PlainObj
import PyProof.TableCode
import PyProof.Rows.Walk
import PyProof.RulesAssignMore
import PyProof.Rows.TupIter
import PyProof.ExcArgsOwn
import PyProof.ExcAttrAll.ValueError
import PyProof.ExcBaseAll.ValueError
import PyProof.ExcClass3
import PyProof.IsiBase
import PyProof.Rows.RuleN_isinstance
import PyProof.Rows.OwnQ
import PyProof.StrOps2
import PyProof.Conv_int_bool
import PyProof.RulesAs
import PyProof.Raises
import PyProof.ForAny
import PyProof.WalksPairs
import PyProof.StrWalks
import PyProof.StrLawsIn
import PyProof.DictCalls
import PyProof.RulesDelMore
import PyProof.Rows.DictRows
import Open.Head
import PySem.Challenge.RW_uf030023_04
set_option Elab.async false
set_option linter.unusedVariables false
set_option linter.unusedSimpArgs false
namespace Mine
open PySem

/-! values of the small language; its heap -/
inductive V where
  | none
  | bool (b : Bool)
  | int (i : Int)
  | str (s : Str)
  | tup (xs : List V)
  | lst (xs : List V)
  | dct (kvs : List (Str × V))
  | ref (n : Nat)
  | obj (n : Nat)

inductive MO where
  | lst (xs : List V)
  | dct (kvs : List (Str × V))
  | att (kvs : List (Str × V))
  | dead

abbrev Hp := List MO
abbrev Rho := Nat → Option V
noncomputable def upd (ρ : Rho) (i : Nat) (v : V) : Rho := fun j => if j = i then some v else ρ j
@[simp] theorem upd_same (ρ : Rho) (i : Nat) (v : V) : upd ρ i v i = some v := by simp [upd]
theorem upd_ne {ρ : Rho} {i j : Nat} {v : V} (h : j ≠ i) : upd ρ i v j = ρ j := by simp [upd, h]

abbrev XP := Nat → Hp → Prop
abbrev ET := Rho → Hp → (V → Hp → Prop) → XP → Prop
abbrev EsT := Rho → Hp → (List V → Hp → Prop) → XP → Prop
abbrev BT := Rho → Hp → (Bool → Hp → Prop) → XP → Prop
inductive Fl where
  | next | brk | cont
  | ret (v : V)
abbrev ST := Rho → Hp → (Fl → Rho → Hp → Prop) → XP → Prop
abbrev Orc := String → List V → Hp → (V → Hp → Prop) → XP → Prop
/-- it is there, and so -/
abbrev got {α : Type} (o : Option α) (P : α → Prop) : Prop := match o with
  | some r => P r
  | none => False
theorem got.ex {α : Type} {o : Option α} {P : α → Prop} (h : got o P) : ∃ r, o = some r ∧ P r := by
  cases o with
  | none => exact h.elim
  | some r => exact ⟨r, rfl, h⟩
abbrev gotB (v : V) (P : Bool → Prop) : Prop := match v with
  | .bool b => P b
  | _ => False
theorem gotB.ex {v : V} {P : Bool → Prop} (h : gotB v P) : ∃ b, v = .bool b ∧ P b := by
  cases v with
  | bool b => exact ⟨b, rfl, h⟩
  | _ => exact h.elim
abbrev gotI (v : V) (P : Int → Prop) : Prop := match v with
  | .int i => P i
  | _ => False
theorem gotI.ex {v : V} {P : Int → Prop} (h : gotI v P) : ∃ i, v = .int i ∧ P i := by
  cases v with
  | int b => exact ⟨b, rfl, h⟩
  | _ => exact h.elim
abbrev gotS (v : V) (P : Str → Prop) : Prop := match v with
  | .str i => P i
  | _ => False
theorem gotS.ex {v : V} {P : Str → Prop} (h : gotS v P) : ∃ i, v = .str i ∧ P i := by
  cases v with
  | str b => exact ⟨b, rfl, h⟩
  | _ => exact h.elim
abbrev gotT (v : V) (P : List V → Prop) : Prop := match v with
  | .tup i => P i
  | _ => False
theorem gotT.ex {v : V} {P : List V → Prop} (h : gotT v P) : ∃ i, v = .tup i ∧ P i := by
  cases v with
  | tup b => exact ⟨b, rfl, h⟩
  | _ => exact h.elim
abbrev got2 (v : V) (P : V → V → Prop) : Prop := match v with
  | .tup [a, b] => P a b
  | _ => False
theorem got2.ex {v : V} {P : V → V → Prop} (h : got2 v P) : ∃ a b, v = .tup [a, b] ∧ P a b := by
  cases v with
  | tup l =>
    cases l with
    | nil => exact h.elim
    | cons a l => cases l with
      | nil => exact h.elim
      | cons b l => cases l with
        | nil => exact ⟨a, b, rfl, h⟩
        | cons => exact h.elim
  | _ => exact h.elim
/-- held back from being reckoned out -/
structure Box (p : Prop) : Prop where
  out : p
theorem Box.eq {p : Prop} : Box p = p := propext ⟨Box.out, Box.mk⟩
/-- the one way or the other -/
structure Br (a b : Prop) (r : Bool) : Prop where
  t : r = true → a
  f : r = false → b

/-! the two worlds side by side -/
abbrev Fz := Addr → Option Obj
structure Cx where
  prog : Program
  w : World
  base : Heap
  mg : Str → Option Value
  mb : Str → Option Value
  os : OsState
  rc : Addr
  adr : Str → Option Addr
structure Wd where
  F : Fz
  φ : List Addr

structure Wd.Le (W W' : Wd) : Prop where
  F : ∀ a o, W.F a = some o → W'.F a = some o
  φ : ∀ (n : Nat) (a : Addr), W.φ[n]? = some a → W'.φ[n]? = some a
theorem Wd.Le.refl (W : Wd) : W.Le W := ⟨fun _ _ h => h, fun _ _ h => h⟩
theorem Wd.Le.trans {W W' W'' : Wd} (h : W.Le W') (h' : W'.Le W'') : W.Le W'' := ⟨fun a o e => h'.F a o (h.F a o e), fun n a e => h'.φ n a (h.φ n a e)⟩

mutual
inductive Rep (C : Cx) (W : Wd) : V → Value → Prop
  | none : Rep C W .none .none
  | bool (b : Bool) : Rep C W (.bool b) (.bool b)
  | int (i : Int) (t : Tok) : Rep C W (.int i) (.int i t)
  | str (s : Str) (t : Tok) : Rep C W (.str s) (.str s t)
  | tup {xs : List V} {a : Addr} {o : Obj} {items : Array Value} {n : Nat} : W.F a = some o → o.cls = .type "tuple" → o.data = .seq items n → RepL C W xs items.toList → Rep C W (.tup xs) (.ref a)
  | lst {xs : List V} {a : Addr} {o : Obj} {items : Array Value} {n : Nat} : W.F a = some o → o.cls = .type "list" → o.data = .seq items n → RepL C W xs items.toList → Rep C W (.lst xs) (.ref a)
  | dct {kvs : List (Str × V)} {a : Addr} {o : Obj} {kvs' : List (Str × Value)} : W.F a = some o → o.IsDictOf (strKind C.prog C.w) kvs' → a ≠ sysModules → RepKV C W kvs kvs' → Rep C W (.dct kvs) (.ref a)
  | ref {n : Nat} {a : Addr} : W.φ[n]? = some a → Rep C W (.ref n) (.ref a)
  | obj {n : Nat} {a dx : Addr} {o : Obj} : W.F a = some o → o.cls = .ref C.rc → o.dict = some dx → (∀ c, o.data ≠ .cls c) → W.φ[n]? = some dx → Rep C W (.obj n) (.ref a)
inductive RepL (C : Cx) (W : Wd) : List V → List Value → Prop
  | nil : RepL C W [] []
  | cons {v : V} {x : Value} {vs : List V} {xs : List Value} : Rep C W v x → RepL C W vs xs → RepL C W (v :: vs) (x :: xs)
inductive RepKV (C : Cx) (W : Wd) : List (Str × V) → List (Str × Value) → Prop
  | nil : RepKV C W [] []
  | cons {k : Str} {v : V} {x : Value} {vs : List (Str × V)} {xs : List (Str × Value)} : Rep C W v x → RepKV C W vs xs → RepKV C W ((k, v) :: vs) ((k, x) :: xs)
end

theorem Rep.mono {C : Cx} {W W' : Wd} (hW : W.Le W') : ∀ {v : V} {x : Value}, Rep C W v x → Rep C W' v x :=
  fun {v x} h => Rep.rec (C := C) (W := W) (motive_1 := fun v x _ => Rep C W' v x) (motive_2 := fun vs xs _ => RepL C W' vs xs) (motive_3 := fun vs xs _ => RepKV C W' vs xs)
    .none .bool .int .str (fun h1 h2 h3 _ ih => .tup (hW.F _ _ h1) h2 h3 ih) (fun h1 h2 h3 _ ih => .lst (hW.F _ _ h1) h2 h3 ih) (fun h1 h2 h3 _ ih => .dct (hW.F _ _ h1) h2 h3 ih) (fun h1 => .ref (hW.φ _ _ h1)) (fun h1 h2 h3 h4 h5 => .obj (hW.F _ _ h1) h2 h3 h4 (hW.φ _ _ h5))
    .nil (fun _ _ i1 i2 => .cons i1 i2) .nil (fun _ _ i1 i2 => .cons i1 i2) h
section
variable {C : Cx} {W W' : Wd}
theorem RepL.inv {v : V} {vs : List V} {xs : List Value} (h : RepL C W (v :: vs) xs) : ∃ x ys, xs = x :: ys ∧ Rep C W v x ∧ RepL C W vs ys := by
  cases h with | cons a b => exact ⟨_, _, rfl, a, b⟩
theorem RepL.inv0 {xs : List Value} (h : RepL C W [] xs) : xs = [] := by cases h; rfl
theorem RepKV.inv {k : Str} {v : V} {vs : List (Str × V)} {xs : List (Str × Value)} (h : RepKV C W ((k, v) :: vs) xs) : ∃ x ys, xs = (k, x) :: ys ∧ Rep C W v x ∧ RepKV C W vs ys := by
  cases h with | cons a b => exact ⟨_, _, rfl, a, b⟩
theorem RepKV.inv0 {xs : List (Str × Value)} (h : RepKV C W [] xs) : xs = [] := by cases h; rfl
theorem RepL.mono (hW : W.Le W') {v : List V} {x : List Value} (h : RepL C W v x) : RepL C W' v x := by
  induction v generalizing x with
  | nil => rw [h.inv0]; exact .nil
  | cons v vs ih => obtain ⟨x, ys, rfl, a, b⟩ := h.inv; exact .cons (a.mono hW) (ih b)
theorem RepKV.mono (hW : W.Le W') {v : List (Str × V)} {x : List (Str × Value)} (h : RepKV C W v x) : RepKV C W' v x := by
  induction v generalizing x with
  | nil => rw [h.inv0]; exact .nil
  | cons v vs ih => obtain ⟨x, ys, rfl, a, b⟩ := h.inv; exact .cons (a.mono hW) (ih b)
theorem RepL.length {v : List V} {x : List Value} (h : RepL C W v x) : v.length = x.length := by
  induction v generalizing x with
  | nil => rw [h.inv0]; rfl
  | cons v vs ih => obtain ⟨x, ys, rfl, a, b⟩ := h.inv; exact congrArg (· + 1) (ih b)
theorem RepL.get {vs : List V} {xs : List Value} (h : RepL C W vs xs) {i : Nat} {v : V} (e : vs[i]? = some v) : ∃ x, xs[i]? = some x ∧ Rep C W v x := by
  induction vs generalizing xs i with
  | nil => cases e
  | cons v vs ih =>
    obtain ⟨x, ys, rfl, a, b⟩ := h.inv
    cases i with
    | zero => cases e; exact ⟨x, rfl, a⟩
    | succ i => exact ih b e
theorem RepL.append {vs : List V} {xs : List Value} {vs' : List V} {xs' : List Value} (h : RepL C W vs xs) (h' : RepL C W vs' xs') : RepL C W (vs ++ vs') (xs ++ xs') := by
  induction vs generalizing xs with
  | nil => rw [h.inv0]; exact h'
  | cons v vs ih => obtain ⟨x, ys, rfl, a, b⟩ := h.inv; exact .cons a (ih b)
theorem RepL.take {vs : List V} {xs : List Value} (h : RepL C W vs xs) (n : Nat) : RepL C W (vs.take n) (xs.take n) := by
  induction vs generalizing xs n with
  | nil => rw [h.inv0, List.take_nil, List.take_nil]; exact .nil
  | cons v vs ih =>
    obtain ⟨x, ys, rfl, a, b⟩ := h.inv
    cases n with
    | zero => exact .nil
    | succ n => exact .cons a (ih b n)
theorem RepL.drop {vs : List V} {xs : List Value} (h : RepL C W vs xs) (n : Nat) : RepL C W (vs.drop n) (xs.drop n) := by
  induction vs generalizing xs n with
  | nil => rw [h.inv0, List.drop_nil, List.drop_nil]; exact .nil
  | cons v vs ih =>
    cases n with
    | zero => exact h
    | succ n => obtain ⟨x, ys, rfl, a, b⟩ := h.inv; exact ih b n
end

/-- the names that the instances hold -/
noncomputable def attrNames : List Str := [Str.ofString "frames", Str.ofString "ended", Str.ofString "kind", Str.ofString "number"]
/-- the object of a namespace -/
structure NsObj (o : Obj) (m : Str → Option Value) : Prop where
  ns : ∃ es ep, o.data = .dict es ep ∧ StrKeys es ∧ UniqKeys es ∧ ∀ name, nsFind es name = m name
/-- what the names of an instance hold -/
structure AttRep (C : Cx) (W : Wd) (kvs : List (Str × V)) (o : Obj) (m : Str → Option Value) : Prop where
  ns : NsObj o m
  at_ : ∀ x v, (kvs.find? fun kv => kv.1 = x).map (·.2) = some v → ∃ y, m x = some y ∧ Rep C W v y
  only : Within m attrNames
noncomputable def ORep (C : Cx) (W : Wd) : MO → Obj → Prop
  | .lst xs, o => ∃ items n, o = { cls := .type "list", data := .seq items n } ∧ RepL C W xs items.toList
  | .dct kvs, o => ∃ kvs', o.IsDictOf (strKind C.prog C.w) kvs' ∧ RepKV C W kvs kvs'
  | .att kvs, o => ∃ m, AttRep C W kvs o m
  | .dead, _ => True
theorem ORep.mono {C : Cx} {W W' : Wd} (hW : W.Le W') : ∀ {m : MO} {o : Obj}, ORep C W m o → ORep C W' m o
  | .lst _, _, ⟨i, n, h2, h3⟩ => ⟨i, n, h2, h3.mono hW⟩
  | .dct _, _, ⟨k, h1, h2⟩ => ⟨k, h1, h2.mono hW⟩
  | .att _, _, ⟨m, h⟩ => ⟨m, h.ns, fun x v e => let ⟨y, a, b⟩ := h.at_ x v e; ⟨y, a, b.mono hW⟩, h.only⟩
  | .dead, _, _ => trivial

/-- the small heap lies in the great one -/
structure HRep (C : Cx) (P : Fz) (W : Wd) (H : Hp) (h : Heap) : Prop where
  len : W.φ.length = H.length
  nodup : W.φ.Nodup
  ex : ∀ a ∈ W.φ, ∃ o, h.get? a = some o
  priv : ∀ a ∈ W.φ, P a = none
  at_ : ∀ (n : Nat) (m : MO), H[n]? = some m → m ≠ .dead → ∃ a o, W.φ[n]? = some a ∧ W.F a = none ∧ h.get? a = some o ∧ ORep C W m o

/-- no record -/
noncomputable def NF (o : Obj) : Prop := ∀ vs, o.data ≠ .fields vs
/-- the mark of an object that is held by its data alone: a frame's namespace, a cell -/
noncomputable def softCls : Value := .builtin "mine.soft"
noncomputable def Pin (o o' : Obj) : Prop := (o.cls = softCls ∧ o'.data = o.data) ∨ (o.cls ≠ softCls ∧ o' = o)
theorem Pin.data {o o' : Obj} (h : Pin o o') : o'.data = o.data := h.elim (·.2) fun x => by rw [x.2]
theorem Pin.refl (o : Obj) : Pin o o := (Classical.em (o.cls = softCls)).imp (fun h => ⟨h, rfl⟩) fun h => ⟨h, rfl⟩
theorem Pin.hard {o o' : Obj} (h : Pin o o') (hc : o.cls ≠ softCls) : o' = o := h.elim (fun x => absurd x.1 hc) (·.2)
structure St (C : Cx) (P : Fz) (own : List Addr) (W : Wd) (H : Hp) (s : Shared) : Prop where
  base : ∀ a o, C.base.get? a = some o → W.F a = some o
  fin : ∀ a o, W.F a = some o → s.heap.get? a = some o
  pin : ∀ a o, P a = some o → ∃ o', s.heap.get? a = some o' ∧ Pin o o'
  pF : ∀ a o, P a = some o → W.F a = none
  hp : HRep C P W H s.heap
  ownF : ∀ a ∈ own, W.F a = none
  ownP : ∀ a ∈ own, P a = none
  ownφ : ∀ a ∈ own, a ∉ W.φ
  ownEx : ∀ a ∈ own, ∃ o, s.heap.get? a = some o ∧ NF o
  gens : s.gens = #[]
  os : s.os = C.os

/-- where a def's names lie: scope as written, slots -/
structure Sc where
  scope : Scope
  vars : List (Str × Nat)

structure EnvOK (σ : Sc) (own : List Addr) (env : Env) : Prop where
  scope : env.scope = σ.scope
  kind : σ.scope.kind = .function
  globals : env.globals = mainGlobals
  builtins : env.builtins = builtinsNs
  loc : env.locals ∈ own
  names : (σ.vars.map (·.1)).Nodup
  slots : (σ.vars.map (·.2)).Nodup

/-- the def's names hold what ρ says -/
structure Vs (C : Cx) (P : Fz) (own : List Addr) (σ : Sc) (env : Env) (W : Wd) (ρ : Rho) (h : Heap) : Prop where
  ns : ∃ m, h.Ns env.locals m ∧ ∀ x i, (x, i) ∈ σ.vars → σ.scope.names.lookup x = some .local → ∀ v, ρ i = some v → ∃ y, m x = some y ∧ Rep C W v y
  cell : ∀ x i, (x, i) ∈ σ.vars → σ.scope.names.lookup x = some .cell → ∃ c cv, env.cells.lookup x = some c ∧ h.IsCell c cv ∧ (c ∈ own ∨ ∃ o, P c = some o) ∧ c ≠ env.locals ∧ ∀ v, ρ i = some v → ∃ y, cv = some y ∧ Rep C W v y

/-- a frame's namespace: one's own, or held by its data -/
noncomputable def FrOK (P : Fz) (own : List Addr) (L : Addr) : Prop := L ∈ own ∨ ∃ o, P L = some o ∧ o.cls = softCls ∧ NF o
/-- the frames that stand open -/
noncomputable def FrsOK (P : Fz) (own : List Addr) (A : Around) : Prop := ∃ l, A.frames = some l ∧ ∀ env ∈ l, env.scope.kind ≠ .module ∧ ∃ L, env.frame = some L ∧ FrOK P own L
structure AOK (d : Nat) (A : Around) (P : Fz) (own : List Addr) : Prop where
  depth : A.depth + 2 * d + 1 < recursionLimit
  units : A.units + 8 * d + 110 < cLine
  handled : A.handled = none
  frs : FrsOK P own A
/-- as it stands at a call -/
structure AOC (d : Nat) (A : Around) (P : Fz) : Prop where
  depth : A.depth + 2 * d < recursionLimit
  units : A.units + 8 * d + 106 < cLine
  handled : A.handled = none
  frs : FrsOK P [] A
theorem FrsOK.to {P P' : Fz} {own own' : List Addr} {A : Around} (h : FrsOK P own A) (k : ∀ L, FrOK P own L → FrOK P' own' L) : FrsOK P' own' A :=
  let ⟨l, e, f⟩ := h
  ⟨l, e, fun env he => let ⟨g1, L, g2, g3⟩ := f env he; ⟨g1, L, g2, k L g3⟩⟩
theorem AOK.to {d : Nat} {A : Around} {P P' : Fz} {own own' : List Addr} (h : AOK d A P own) (k : ∀ L, FrOK P own L → FrOK P' own' L) : AOK d A P' own' := ⟨h.depth, h.units, h.handled, h.frs.to k⟩
theorem FrOK.up {P P' : Fz} {own : List Addr} (hP : ∀ a o, P a = some o → P' a = some o) {L : Addr} (h : FrOK P own L) : FrOK P' own L := h.imp id fun ⟨o, e, r⟩ => ⟨o, hP L o e, r⟩

/-- what nobody holds -/
structure Loose (P : Fz) (own : List Addr) (W : Wd) (a : Addr) : Prop where
  F : W.F a = none
  P : P a = none
  φ : a ∉ W.φ
  own : a ∉ own
/-- an exception's object, and its trace -/
noncomputable def FlyT (h : Heap) (ok : Addr → Prop) (e : Addr) (vs : Array Value) : Prop := ∃ T oT ts fl, vs[1]? = some (.ref T) ∧ ok T ∧ T ≠ e ∧ h.get? T = some oT ∧ oT.data = .fields ts ∧ ts[3]? = some fl
noncomputable def FlyO (h : Heap) (ok : Addr → Prop) (cls : Value) (e : Addr) (tr : Bool) : Prop :=
  ok e ∧ ∃ oe vs, h.get? e = some oe ∧ oe.cls = cls ∧ oe.data = .fields vs ∧ 1 < vs.size ∧ ((tr = false ∧ vs[1]? = some .none) ∨ FlyT h ok e vs)
noncomputable def excNm (c : Nat) : Str := Str.ofString (match c with | 0 => "TooTall" | 1 => "BadPiece" | _ => "BadName")
/-- an exception in flight -/
noncomputable def Fly (C : Cx) (P : Fz) (own : List Addr) (W : Wd) (c : Nat) (e : Value) (s : Shared) : Prop := ∃ a ca, e = .ref a ∧ C.mg (excNm c) = some (.ref ca) ∧ FlyO s.heap (Loose P own W) (.ref ca) a false

noncomputable def SimE (C : Cx) (d : Nat) (σ : Sc) (e : Expr) (t : ET) : Prop :=
  ∀ (env : Env) (P : Fz) (own : List Addr) (A : Around) (W : Wd) (ρ : Rho) (H : Hp) (s : Shared) (Q : V → Hp → Prop) (X : XP) (QQ : Value → Shared → Prop) (E : Value → Shared → Prop),
    EnvOK σ own env → AOK d A P own → St C P own W H s → Vs C P own σ env W ρ s.heap → t ρ H Q X →
    (∀ W' H' s' v x, W.Le W' → St C P own W' H' s' → Vs C P own σ env W' ρ s'.heap → Rep C W' v x → Q v H' → QQ x s') →
    (∀ W' H' s' c e, W.Le W' → St C P own W' H' s' → Vs C P own σ env W' ρ s'.heap → Fly C P own W' c e s' → X c H' → E e s') →
    wpAny (model C.prog C.w) A (eval e env) QQ E s

noncomputable def SimT (C : Cx) (d : Nat) (σ : Sc) (e : Expr) (t : BT) : Prop :=
  ∀ (env : Env) (P : Fz) (own : List Addr) (A : Around) (W : Wd) (ρ : Rho) (H : Hp) (s : Shared) (Q : Bool → Hp → Prop) (X : XP) (QQ : Bool → Shared → Prop) (E : Value → Shared → Prop),
    EnvOK σ own env → AOK d A P own → St C P own W H s → Vs C P own σ env W ρ s.heap → t ρ H Q X →
    (∀ W' H' s' b, W.Le W' → St C P own W' H' s' → Vs C P own σ env W' ρ s'.heap → Q b H' → QQ b s') →
    (∀ W' H' s' c e, W.Le W' → St C P own W' H' s' → Vs C P own σ env W' ρ s'.heap → Fly C P own W' c e s' → X c H' → E e s') →
    wpAny (model C.prog C.w) A (isTrue e env (eval e env)) QQ E s

/-- what flows out of a statement -/
inductive FlRep (C : Cx) (W : Wd) : Fl → Flow → Prop
  | next : FlRep C W .next .next
  | brk : FlRep C W .brk .brk
  | cont : FlRep C W .cont .cont
  | ret {v : V} {x : Value} : Rep C W v x → FlRep C W (.ret v) (.ret x)

structure OwnC (own : List Addr) (env : Env) (A : Around) : Prop where
  head : ∃ outer, A.frames = some (env :: outer)
  fr : env.frame = some env.locals
  cells : ∀ x c, env.cells.lookup x = some c → c ∈ own
  apart : ∀ x y c, env.cells.lookup x = some c → env.cells.lookup y = some c → x = y

noncomputable def SimS (C : Cx) (d : Nat) (σ : Sc) (st : Stmt) (t : ST) : Prop :=
  ∀ (env : Env) (P : Fz) (own : List Addr) (A : Around) (W : Wd) (ρ : Rho) (H : Hp) (s : Shared) (Q : Fl → Rho → Hp → Prop) (X : XP) (QQ : Flow → Shared → Prop) (E : Value → Shared → Prop),
    EnvOK σ own env → OwnC own env A → AOK d A P own → St C P own W H s → Vs C P own σ env W ρ s.heap → t ρ H Q X →
    (∀ W' ρ' H' s' fl x, W.Le W' → St C P own W' H' s' → Vs C P own σ env W' ρ' s'.heap → FlRep C W' fl x → Q fl ρ' H' → QQ x s') →
    (∀ W' ρ' H' s' c e, W.Le W' → St C P own W' H' s' → Vs C P own σ env W' ρ' s'.heap → Fly C P own W' c e s' → X c H' → E e s') →
    wpAny (model C.prog C.w) A (exec st env) QQ E s
noncomputable def SimSs (C : Cx) (d : Nat) (σ : Sc) (st : List Stmt) (t : ST) : Prop :=
  ∀ (env : Env) (P : Fz) (own : List Addr) (A : Around) (W : Wd) (ρ : Rho) (H : Hp) (s : Shared) (Q : Fl → Rho → Hp → Prop) (X : XP) (QQ : Flow → Shared → Prop) (E : Value → Shared → Prop),
    EnvOK σ own env → OwnC own env A → AOK d A P own → St C P own W H s → Vs C P own σ env W ρ s.heap → t ρ H Q X →
    (∀ W' ρ' H' s' fl x, W.Le W' → St C P own W' H' s' → Vs C P own σ env W' ρ' s'.heap → FlRep C W' fl x → Q fl ρ' H' → QQ x s') →
    (∀ W' ρ' H' s' c e, W.Le W' → St C P own W' H' s' → Vs C P own σ env W' ρ' s'.heap → Fly C P own W' c e s' → X c H' → E e s') →
    wpAny (model C.prog C.w) A (execs st env) QQ E s

noncomputable def Wd.addF (W : Wd) (a : Addr) (o : Obj) : Wd := { W with F := fun b => if b = a then some o else W.F b }
theorem Wd.addF_le {W : Wd} {a : Addr} {o : Obj} (h : W.F a = none) : W.Le (W.addF a o) :=
  ⟨fun b o' e => by
    have : b ≠ a := fun q => by rw [q, h] at e; cases e
    simp [Wd.addF, this, e], fun _ _ e => e⟩
theorem Wd.addF_at (W : Wd) (a : Addr) (o : Obj) : (W.addF a o).F a = some o := by simp [Wd.addF]

section
variable {C : Cx} {P : Fz} {own : List Addr} {W : Wd} {H : Hp} {s s' : Shared} {σ : Sc} {env : Env} {ρ : Rho}

theorem St.keeps (S : St C P own W H s) (hk : ∀ b o, s.heap.get? b = some o → s'.heap.get? b = some o) (hg : s'.gens = s.gens) (ho : s'.os = s.os) : St C P own W H s' where
  base := S.base
  fin := fun a o e => hk a o (S.fin a o e)
  pin := fun a o e => let ⟨o', h1, h2⟩ := S.pin a o e; ⟨o', hk a o' h1, h2⟩
  pF := S.pF
  hp := { len := S.hp.len, nodup := S.hp.nodup, ex := fun a ha => let ⟨o, e⟩ := S.hp.ex a ha; ⟨o, hk a o e⟩, priv := S.hp.priv,
          at_ := fun n m e hd => let ⟨a, o, h1, h2, h3, h4⟩ := S.hp.at_ n m e hd; ⟨a, o, h1, h2, hk a o h3, h4⟩ }
  ownF := S.ownF
  ownP := S.ownP
  ownφ := S.ownφ
  ownEx := fun a ha => let ⟨o, e, f⟩ := S.ownEx a ha; ⟨o, hk a o e, f⟩
  gens := hg.trans S.gens
  os := ho.trans S.os
theorem St.tok (S : St C P own W H s) (t : Nat) : St C P own W H { s with toks := t } := S.keeps (fun _ _ e => e) rfl rfl
theorem Vs.keeps {h h' : Heap} (x : Vs C P own σ env W ρ h) (hk : ∀ b o, h.get? b = some o → h'.get? b = some o) : Vs C P own σ env W ρ h' where
  ns := let ⟨m, h1, h2⟩ := x.ns; ⟨m, h1.keeps hk, h2⟩
  cell := fun y i hy hc => let ⟨c, cv, h1, h2, h3⟩ := x.cell y i hy hc; ⟨c, cv, h1, h2.keeps hk, h3⟩
theorem Vs.mono {h : Heap} {W' : Wd} (hW : W.Le W') (x : Vs C P own σ env W ρ h) : Vs C P own σ env W' ρ h where
  ns := let ⟨m, h1, h2⟩ := x.ns; ⟨m, h1, fun y i hy hl v hv => let ⟨z, e, r⟩ := h2 y i hy hl v hv; ⟨z, e, r.mono hW⟩⟩
  cell := fun y i hy hc => let ⟨c, cv, h1, h2, h3, h4, h5⟩ := x.cell y i hy hc; ⟨c, cv, h1, h2, h3, h4, fun v hv => let ⟨z, e, r⟩ := h5 v hv; ⟨z, e, r.mono hW⟩⟩

theorem HRep.mono_at {h : Heap} {W' : Wd} (hW : W.Le W') (hφ : W'.φ = W.φ) (hn : ∀ a ∈ W.φ, W.F a = none → W'.F a = none) (x : HRep C P W H h) : HRep C P W' H h where
  len := hφ ▸ x.len
  nodup := hφ ▸ x.nodup
  ex := hφ ▸ x.ex
  priv := hφ ▸ x.priv
  at_ := fun n m e hd => let ⟨a, o, h1, h2, h3, h4⟩ := x.at_ n m e hd
    ⟨a, o, hφ ▸ h1, hn a (List.mem_of_getElem? h1) h2, h3, h4.mono hW⟩

/-- a new object, frozen -/
theorem St.addF (S : St C P own W H s) {a : Addr} {o : Obj} (hk : ∀ b o, s.heap.get? b = some o → s'.heap.get? b = some o) (hn : s.heap.get? a = none) (ha : s'.heap.get? a = some o) (hg : s'.gens = s.gens) (ho : s'.os = s.os) :
    W.Le (W.addF a o) ∧ St C P own (W.addF a o) H s' := by
  have S' := S.keeps hk hg ho
  have hF : W.F a = none := by
    cases q : W.F a with
    | none => rfl
    | some o' => have := S.fin a o' q; rw [hn] at this; cases this
  have le := Wd.addF_le (o := o) hF
  have ne : ∀ b o', s.heap.get? b = some o' → b ≠ a := fun b o' e q => by rw [q, hn] at e; cases e
  refine ⟨le, ⟨fun b o' e => le.F _ _ (S.base b o' e), fun b o' e => ?_, S'.pin, fun b o' e => ?_, HRep.mono_at le rfl (fun b hb e => ?_) S'.hp, fun b hb => ?_, S'.ownP, S'.ownφ, S'.ownEx, S'.gens, S'.os⟩⟩
  · by_cases q : b = a
    · subst q; rw [Wd.addF_at] at e; cases e; exact ha
    · exact S'.fin b o' (by simpa [Wd.addF, q] using e)
  · obtain ⟨o₁, e₁, _⟩ := S.pin b o' e
    simpa [Wd.addF, ne b o₁ e₁] using S.pF b o' e
  · obtain ⟨o', e'⟩ := S.hp.ex b hb
    simpa [Wd.addF, ne b o' e'] using e
  · obtain ⟨o', e', _⟩ := S.ownEx b hb
    simpa [Wd.addF, ne b o' e'] using S.ownF b hb

/-- an object of one's own is changed -/
theorem St.own_upd (S : St C P own W H s) {a : Addr} (hmem : a ∈ own) (hs : Heap.SameBut a s.heap s'.heap) (ha : ∃ o, s'.heap.get? a = some o ∧ NF o) (hg : s'.gens = s.gens) (hos : s'.os = s.os) : St C P own W H s' := by
  have keepNe : ∀ b o', b ≠ a → s.heap.get? b = some o' → s'.heap.get? b = some o' := fun b o' hb e => (hs.2 b hb).trans e
  have hφ : ∀ b ∈ W.φ, b ≠ a := fun b hb q => S.ownφ a hmem (q ▸ hb)
  refine ⟨S.base, fun b o' e => keepNe b o' (fun q => by rw [q, S.ownF a hmem] at e; cases e) (S.fin b o' e), fun b o' e => let ⟨o₁, h1, h2⟩ := S.pin b o' e; ⟨o₁, keepNe b o₁ (fun q => by rw [q, S.ownP a hmem] at e; cases e) h1, h2⟩, S.pF,
    ⟨S.hp.len, S.hp.nodup, fun b hb => ?_, S.hp.priv, fun k m₁ e hd => ?_⟩, S.ownF, S.ownP, S.ownφ, fun b hb => ?_, hg.trans S.gens, hos.trans S.os⟩
  · obtain ⟨o', e⟩ := S.hp.ex b hb; exact ⟨o', keepNe b o' (hφ b hb) e⟩
  · obtain ⟨b, o', g1, g2, g3, g4⟩ := S.hp.at_ k m₁ e hd
    exact ⟨b, o', g1, g2, keepNe b o' (hφ b (List.mem_of_getElem? g1)) g3, g4⟩
  · by_cases q : b = a
    · subst q; exact ha
    · obtain ⟨o', e, f⟩ := S.ownEx b hb; exact ⟨o', keepNe b o' q e, f⟩

end

/-! what is one's own is laid aside, and taken up again -/
section
variable {C : Cx} {P P' : Fz} {own : List Addr} {W : Wd} {H : Hp} {s s' : Shared} {σ : Sc} {env : Env} {ρ : Rho}
/-- a namespace is held but for its slots -/
noncomputable def soft (o : Obj) : Obj := { cls := softCls, data := o.data }
theorem soft_data (o : Obj) : (soft o).data = o.data := rfl
theorem pin_soft (o : Obj) : Pin (soft o) o := .inl ⟨rfl, rfl⟩
theorem St.pinned (S : St C P own W H s) {a : Addr} {o : Obj} (h : P a = some o) (hc : o.cls ≠ softCls) : s.heap.get? a = some o := by
  obtain ⟨o', e, p⟩ := S.pin a o h
  rw [e, p.hard hc]
open Classical in
/-- P and what stands at own -/
noncomputable def aside (P : Fz) (own : List Addr) (h : Heap) : Fz := fun a => if a ∈ own then (h.get? a).map soft else P a
theorem aside_in {a : Addr} {h : Heap} (ha : a ∈ own) : aside P own h a = (h.get? a).map soft := by simp [aside, ha]
theorem aside_out {a : Addr} {h : Heap} (ha : a ∉ own) : aside P own h a = P a := by simp [aside, ha]

theorem St.aside (S : St C P own W H s) : St C (aside P own s.heap) [] W H s where
  base := S.base
  fin := S.fin
  pin := fun a o e => by
    by_cases q : a ∈ own
    · rw [aside_in q] at e
      obtain ⟨o', e', rfl⟩ := Option.map_eq_some_iff.mp e
      exact ⟨o', e', pin_soft o'⟩
    · rw [aside_out q] at e; exact S.pin a o e
  pF := fun a o e => by
    by_cases q : a ∈ own
    · exact S.ownF a q
    · rw [aside_out q] at e; exact S.pF a o e
  hp := { len := S.hp.len, nodup := S.hp.nodup, ex := S.hp.ex, at_ := S.hp.at_,
          priv := fun a ha => by rw [aside_out fun q => S.ownφ a q ha]; exact S.hp.priv a ha }
  ownF := nofun
  ownP := nofun
  ownφ := nofun
  ownEx := nofun
  gens := S.gens
  os := S.os
theorem St.back {W' : Wd} {H' : Hp} (S : St C P own W H s) (S' : St C (Mine.aside P own s.heap) [] W' H' s') : St C P own W' H' s' where
  base := S'.base
  fin := S'.fin
  pin := fun a o e => S'.pin a o (by rw [aside_out fun q => by rw [S.ownP a q] at e; cases e]; exact e)
  pF := fun a o e => S'.pF a o (by rw [aside_out fun q => by rw [S.ownP a q] at e; cases e]; exact e)
  hp := { len := S'.hp.len, nodup := S'.hp.nodup, ex := S'.hp.ex, at_ := S'.hp.at_,
          priv := fun a ha => by
            have := S'.hp.priv a ha
            by_cases q : a ∈ own
            · exact S.ownP a q
            · rwa [aside_out q] at this }
  ownF := fun a ha => by obtain ⟨o, e, _⟩ := S.ownEx a ha; exact S'.pF a (soft o) (by rw [aside_in ha, e]; rfl)
  ownP := S.ownP
  ownφ := fun a ha q => by
    obtain ⟨o, e, _⟩ := S.ownEx a ha
    have := S'.hp.priv a q
    rw [aside_in ha, e] at this; cases this
  ownEx := fun a ha => by
    obtain ⟨o, e, f⟩ := S.ownEx a ha
    obtain ⟨o', h1, h2⟩ := S'.pin a (soft o) (by rw [aside_in ha, e]; rfl)
    exact ⟨o', h1, fun vs q => f vs (h2.data.symm.trans q)⟩
  gens := S'.gens
  os := S'.os
/-- what is one's own stands as it stood -/
theorem St.back_at {W' : Wd} {H' : Hp} (S : St C P own W H s) (S' : St C (Mine.aside P own s.heap) [] W' H' s') {a : Addr} (ha : a ∈ own ∨ ∃ o, P a = some o) {o : Obj} (e : s.heap.get? a = some o) : ∃ o', s'.heap.get? a = some o' ∧ o'.data = o.data := by
  by_cases q : a ∈ own
  · obtain ⟨o', h1, h2⟩ := S'.pin a (soft o) (by rw [aside_in q, e]; rfl)
    exact ⟨o', h1, h2.data.trans (soft_data o)⟩
  · rcases ha with ha | ⟨o', e'⟩
    · exact absurd ha q
    · obtain ⟨o₁, h1, p1⟩ := S.pin a o' e'
      rw [e] at h1; cases h1
      obtain ⟨o₂, h2, p2⟩ := S'.pin a o' (by rw [aside_out q]; exact e')
      exact ⟨o₂, h2, p2.data.trans p1.data.symm⟩
theorem Vs.at_ {h h' : Heap} (K : EnvOK σ own env) (x : Vs C P own σ env W ρ h) (hk : ∀ a, (a ∈ own ∨ ∃ o, P a = some o) → ∀ o, h.get? a = some o → ∃ o', h'.get? a = some o' ∧ o'.data = o.data) : Vs C P own σ env W ρ h' where
  ns := by
    obtain ⟨m, ⟨o, es, ep, h1, h2, h2'⟩, h3⟩ := x.ns
    obtain ⟨o', g1, g2⟩ := hk _ (.inl K.loc) _ h1
    exact ⟨m, ⟨o', es, ep, g1, g2.trans h2, h2'⟩, h3⟩
  cell := fun y i hy hc => by
    obtain ⟨c, cv, h1, ⟨o, h2, h2'⟩, h3, h4⟩ := x.cell y i hy hc
    obtain ⟨o', g1, g2⟩ := hk _ h3 _ h2
    exact ⟨c, cv, h1, ⟨o', g1, g2.trans h2'⟩, h3, h4⟩

/-- less is laid aside -/
theorem St.lessP (S : St C P' own W H s) (h : ∀ a o, P a = some o → P' a = some o) : St C P own W H s where
  base := S.base
  fin := S.fin
  pin := fun a o e => S.pin a o (h a o e)
  pF := fun a o e => S.pF a o (h a o e)
  hp := { len := S.hp.len, nodup := S.hp.nodup, ex := S.hp.ex, at_ := S.hp.at_,
          priv := fun a ha => by
            cases q : P a with
            | none => rfl
            | some o => have := h a o q; rw [S.hp.priv a ha] at this; cases this }
  ownF := S.ownF
  ownP := fun a ha => by
            cases q : P a with
            | none => rfl
            | some o => have := h a o q; rw [S.ownP a ha] at this; cases this
  ownφ := S.ownφ
  ownEx := S.ownEx
  gens := S.gens
  os := S.os
/-- one object more is laid aside -/
noncomputable def addP (P : Fz) (a : Addr) (o : Obj) : Fz := fun b => if b = a then some o else P b
theorem addP_at (P : Fz) (a : Addr) (o : Obj) : addP P a o a = some o := by simp [addP]
theorem addP_le {P : Fz} {a : Addr} {o : Obj} (h : P a = none) : ∀ b o', P b = some o' → addP P a o b = some o' := fun b o' e => by
  have : b ≠ a := fun q => by rw [q, h] at e; cases e
  simp [addP, this, e]
theorem St.moreP (S : St C P own W H s) {a : Addr} {o : Obj} (ho : s.heap.get? a = some o) (hF : W.F a = none) (hφ : a ∉ W.φ) (hown : a ∉ own) : St C (addP P a o) own W H s where
  base := S.base
  fin := S.fin
  pin := fun b o' e => by
    by_cases q : b = a
    · subst q; rw [addP_at] at e; cases e; exact ⟨o, ho, .refl o⟩
    · exact S.pin b o' (by simpa [addP, q] using e)
  pF := fun b o' e => by
    by_cases q : b = a
    · subst q; exact hF
    · exact S.pF b o' (by simpa [addP, q] using e)
  hp := { len := S.hp.len, nodup := S.hp.nodup, ex := S.hp.ex, at_ := S.hp.at_,
          priv := fun b hb => by
            have : b ≠ a := fun q => hφ (q ▸ hb)
            simpa [addP, this] using S.hp.priv b hb }
  ownF := S.ownF
  ownP := fun b hb => by
    have : b ≠ a := fun q => hown (q ▸ hb)
    simpa [addP, this] using S.ownP b hb
  ownφ := S.ownφ
  ownEx := S.ownEx
  gens := S.gens
  os := S.os
/-- an address that did not stand there is in nobody's hand -/
theorem St.fresh (S : St C P own W H s) {a : Addr} (hn : s.heap.get? a = none) : W.F a = none ∧ P a = none ∧ a ∉ W.φ ∧ a ∉ own := by
  refine ⟨?_, ?_, fun q => ?_, fun q => ?_⟩
  · cases q : W.F a with
    | none => rfl
    | some o' => have := S.fin a o' q; rw [hn] at this; cases this
  · cases q : P a with
    | none => rfl
    | some o' => obtain ⟨o₁, e₁, _⟩ := S.pin a o' q; rw [hn] at e₁; cases e₁
  · obtain ⟨o, e⟩ := S.hp.ex a q; rw [hn] at e; cases e
  · obtain ⟨o, e, _⟩ := S.ownEx a q; rw [hn] at e; cases e
end

/-! what nobody holds is taken up -/
section
variable {C : Cx} {P : Fz} {own : List Addr} {W : Wd} {H : Hp} {s : Shared}
theorem St.takeF (S : St C P own W H s) {a : Addr} {o : Obj} (ho : s.heap.get? a = some o) (hF : W.F a = none) (hP : P a = none) (hφ : a ∉ W.φ) (hown : a ∉ own) : W.Le (W.addF a o) ∧ St C P own (W.addF a o) H s := by
  have le := Wd.addF_le (o := o) hF
  refine ⟨le, ⟨fun b o' e => le.F _ _ (S.base b o' e), fun b o' e => ?_, S.pin, fun b o' e => ?_, HRep.mono_at le rfl (fun b hb e => ?_) S.hp, fun b hb => ?_, S.ownP, S.ownφ, S.ownEx, S.gens, S.os⟩⟩
  · by_cases q : b = a
    · subst q; rw [Wd.addF_at] at e; cases e; exact ho
    · exact S.fin b o' (by simpa [Wd.addF, q] using e)
  · have : b ≠ a := fun q => by rw [q, hP] at e; cases e
    simpa [Wd.addF, this] using S.pF b o' e
  · have : b ≠ a := fun q => hφ (q ▸ hb)
    simpa [Wd.addF, this] using e
  · have : b ≠ a := fun q => hown (q ▸ hb)
    simpa [Wd.addF, this] using S.ownF b hb
theorem St.moreOwn (S : St C P own W H s) {a : Addr} (ho : ∃ o, s.heap.get? a = some o ∧ NF o) (hF : W.F a = none) (hP : P a = none) (hφ : a ∉ W.φ) : St C P (a :: own) W H s where
  base := S.base
  fin := S.fin
  pin := S.pin
  pF := S.pF
  hp := S.hp
  ownF := fun b hb => (List.mem_cons.mp hb).elim (fun e => e ▸ hF) (S.ownF b)
  ownP := fun b hb => (List.mem_cons.mp hb).elim (fun e => e ▸ hP) (S.ownP b)
  ownφ := fun b hb => (List.mem_cons.mp hb).elim (fun e => e ▸ hφ) (S.ownφ b)
  ownEx := fun b hb => (List.mem_cons.mp hb).elim (fun e => e ▸ ho) (S.ownEx b)
  gens := S.gens
  os := S.os
theorem St.lessOwn (S : St C P own W H s) {own' : List Addr} (h : ∀ a ∈ own', a ∈ own) : St C P own' W H s where
  base := S.base
  fin := S.fin
  pin := S.pin
  pF := S.pF
  hp := S.hp
  ownF := fun b hb => S.ownF b (h b hb)
  ownP := fun b hb => S.ownP b (h b hb)
  ownφ := fun b hb => S.ownφ b (h b hb)
  ownEx := fun b hb => S.ownEx b (h b hb)
  gens := S.gens
  os := S.os
end

/-! exceptions in flight -/
section
variable {C : Cx} {P P' : Fz} {own own' : List Addr} {W : Wd} {H : Hp} {s s' : Shared} {σ : Sc} {env : Env} {ρ : Rho} {A : Around} {d c : Nat} {e : Value}
theorem FlyT.to {h h' : Heap} {ok ok' : Addr → Prop} {a : Addr} {vs : Array Value} (x : FlyT h ok a vs) (k : ∀ b, ok b → ok' b) (g : ∀ b, ok b → h'.get? b = h.get? b) : FlyT h' ok' a vs :=
  let ⟨T, oT, ts, fl, h1, h2, h3, h4, h5⟩ := x; ⟨T, oT, ts, fl, h1, k T h2, h3, (g T h2).trans h4, h5⟩
theorem FlyO.to {h : Heap} {ok ok' : Addr → Prop} {cls : Value} {a : Addr} {tr : Bool} (x : FlyO h ok cls a tr) (k : ∀ b, ok b → ok' b) : FlyO h ok' cls a tr :=
  let ⟨h0, oe, vs, h1, h2, h3, h4, h5⟩ := x; ⟨k a h0, oe, vs, h1, h2, h3, h4, h5.imp id fun y => y.to k fun _ _ => rfl⟩
theorem Fly.to (x : Fly C P own W c e s) (k : ∀ b, Loose P own W b → Loose P' own' W b) : Fly C P' own' W c e s := let ⟨a, ca, h1, h2, h3⟩ := x; ⟨a, ca, h1, h2, h3.to k⟩
theorem Fly.lessP (x : Fly C P' own W c e s) (h : ∀ a o, P a = some o → P' a = some o) : Fly C P own W c e s :=
  x.to fun b y =>
    have hb : P b = none := by
      cases q : P b with
      | none => rfl
      | some o => have h' := h b o q; rw [y.P] at h'; cases h'
    ⟨y.F, hb, y.φ, y.own⟩
theorem Fly.lessOwn (x : Fly C P own W c e s) (h : ∀ a ∈ own', a ∈ own) : Fly C P own' W c e s := x.to fun b y => ⟨y.F, y.P, y.φ, fun q => y.own (h b q)⟩
theorem Fly.back {W' : Wd} (x : Fly C (Mine.aside P own s.heap) [] W' c e s') (S : St C P own W H s) : Fly C P own W' c e s' :=
  x.to fun b y => by
    have h : b ∉ own := fun q => by
      obtain ⟨o, e, _⟩ := S.ownEx b q
      have := y.P
      rw [aside_in q, e] at this; cases this
    exact ⟨y.F, (aside_out (P := P) (h := s.heap) h).symm.trans y.P, y.φ, h⟩
theorem St.frA (S : St C P own W H s) {L : Addr} (h : FrOK P own L) : FrOK (Mine.aside P own s.heap) [] L := by
  by_cases q : L ∈ own
  · obtain ⟨o, e, f⟩ := S.ownEx L q
    exact .inr ⟨soft o, by rw [aside_in q, e]; rfl, rfl, f⟩
  · exact .inr (by rw [aside_out q]; exact h.resolve_left q)
theorem AOK.forC (h : AOK d A P own) (S : St C P own W H s) : AOC d A (Mine.aside P own s.heap) := ⟨by have := h.depth; (first | lia | omega), by have := h.units; (first | lia | omega), h.handled, h.frs.to fun _ => S.frA⟩

/-- what may change when a trace is laid: what nobody holds; the slots of the frames -/
structure Chg (fr : List Addr) (ok : Addr → Prop) (h h' : Heap) : Prop where
  up : ∀ b o, h.get? b = some o → ¬ ok b → ∃ sl, h'.get? b = some { o with slots := sl }
  at_ : ∀ b o, h.get? b = some o → ¬ ok b → b ∉ fr → h'.get? b = some o
theorem Chg.refl (fr : List Addr) (ok : Addr → Prop) (h : Heap) : Chg fr ok h h := ⟨fun _ o e _ => ⟨o.slots, e⟩, fun _ _ e _ _ => e⟩
theorem Chg.trans {fr : List Addr} {ok : Addr → Prop} {h h' h'' : Heap} (x : Chg fr ok h h') (y : Chg fr ok h' h'') : Chg fr ok h h'' :=
  ⟨fun b o e n => let ⟨_, e1⟩ := x.up b o e n; let ⟨sl, e2⟩ := y.up b _ e1 n; ⟨sl, e2⟩, fun b o e n m => y.at_ b o (x.at_ b o e n m) n m⟩
theorem Chg.upd {fr : List Addr} {ok : Addr → Prop} {h : Heap} {T : Addr} (hT : ok T) (f : Obj → Obj) : Chg fr ok h (h.update T f) :=
  have k : ∀ b o, h.get? b = some o → ¬ ok b → (h.update T f).get? b = some o := fun b o e n => (Heap.get?_update_other _ _ (fun q : T = b => n (q ▸ hT))).trans e
  ⟨fun b o e n => ⟨o.slots, k b o e n⟩, fun b o e n _ => k b o e n⟩
noncomputable def noHeap : Heap := { objs := #[] }
theorem noHeap_get (a : Addr) : noHeap.get? a = none := Heap.get?_none_of_le (Nat.zero_le a)
theorem FrsOK.fun (h : FrsOK P own A) (S : St C P own W H s) {l : List Env} (hl : A.frames = some l) : s.heap.FunFrames noHeap l ∧ ∀ L ∈ l.filterMap (·.frame), FrOK P own L := by
  obtain ⟨l', e, f⟩ := h
  cases hl.symm.trans e
  have ex : ∀ L, FrOK P own L → ∃ o, s.heap.get? L = some o ∧ NF o := fun L h => by
    rcases h with h | ⟨o, h1, _, h3⟩
    · exact S.ownEx L h
    · obtain ⟨o', e', p⟩ := S.pin L o h1
      exact ⟨o', e', fun vs q => h3 vs (p.data.symm.trans q)⟩
  clear hl e
  induction l with
  | nil => exact ⟨trivial, fun _ h => absurd h List.not_mem_nil⟩
  | cons v l ih =>
    obtain ⟨g1, L, g2, g3⟩ := f v List.mem_cons_self
    obtain ⟨i1, i2⟩ := ih fun w hw => f w (List.mem_cons_of_mem _ hw)
    obtain ⟨o, e, n⟩ := ex L g3
    refine ⟨⟨g1, ⟨L, o, g2, noHeap_get L, e, n⟩, i1⟩, fun F hF => ?_⟩
    rw [List.filterMap_cons, g2] at hF
    rcases List.mem_cons.mp hF with rfl | hF
    · exact g3
    · exact i2 F hF
theorem St.notLoose (S : St C P own W H s) {a : Addr} (h : (∃ o, W.F a = some o) ∨ (∃ o, P a = some o) ∨ a ∈ W.φ ∨ a ∈ own) : ¬ Loose P own W a := fun x => by
  rcases h with ⟨o, h⟩ | ⟨o, h⟩ | h | h
  · rw [x.F] at h; cases h
  · rw [x.P] at h; cases h
  · exact x.φ h
  · exact x.own h
theorem St.chg (S : St C P own W H s) {fr : List Addr} {h' : Heap} (x : Chg fr (Loose P own W) s.heap h') (hfr : ∀ L ∈ fr, FrOK P own L) : St C P own W H { s with heap := h' } where
  base := S.base
  fin := fun a o e => x.at_ a o (S.fin a o e) (S.notLoose (.inl ⟨o, e⟩)) fun q => by
    rcases hfr a q with h | ⟨o', h, _⟩
    · rw [S.ownF a h] at e; cases e
    · rw [S.pF a o' h] at e; cases e
  pin := fun a o e => by
    obtain ⟨o', h1, p⟩ := S.pin a o e
    have nl := S.notLoose (.inr (.inl ⟨o, e⟩))
    by_cases q : a ∈ fr
    · rcases hfr a q with h | ⟨o₂, h, hc, _⟩
      · rw [S.ownP a h] at e; cases e
      · rw [e] at h; cases h
        obtain ⟨sl, h2⟩ := x.up a o' h1 nl
        exact ⟨_, h2, .inl ⟨hc, p.data⟩⟩
    · exact ⟨o', x.at_ a o' h1 nl q, p⟩
  pF := S.pF
  hp := by
    have hφ : ∀ a ∈ W.φ, ∀ o, s.heap.get? a = some o → h'.get? a = some o := fun a ha o e => x.at_ a o e (S.notLoose (.inr (.inr (.inl ha)))) fun q => by
      rcases hfr a q with h | ⟨o', h, _⟩
      · exact S.ownφ a h ha
      · rw [S.hp.priv a ha] at h; cases h
    exact { len := S.hp.len, nodup := S.hp.nodup, ex := fun a ha => let ⟨o, e⟩ := S.hp.ex a ha; ⟨o, hφ a ha o e⟩, priv := S.hp.priv,
            at_ := fun n m e hd => let ⟨a, o, h1, h2, h3, h4⟩ := S.hp.at_ n m e hd; ⟨a, o, h1, h2, hφ a (List.mem_of_getElem? h1) o h3, h4⟩ }
  ownF := S.ownF
  ownP := S.ownP
  ownφ := S.ownφ
  ownEx := fun a ha => let ⟨o, e, f⟩ := S.ownEx a ha; let ⟨sl, e'⟩ := x.up a o e (S.notLoose (.inr (.inr (.inr ha)))); ⟨_, e', f⟩
  gens := S.gens
  os := S.os
theorem Vs.chg {h h' : Heap} (x : Vs C P own σ env W ρ h) (S : St C P own W H s) (K : EnvOK σ own env) {fr : List Addr} (y : Chg fr (Loose P own W) h h') : Vs C P own σ env W ρ h' :=
  x.at_ K fun a ha o e => let ⟨sl, e'⟩ := y.up a o e (S.notLoose (ha.elim (fun q => .inr (.inr (.inr q))) fun q => .inr (.inl q))); ⟨_, e', rfl⟩
theorem St.looseNew (S : St C P own W H s) {b : Addr} (h : s.heap.get? b = none) : Loose P own W b := let ⟨h1, h2, h3, h4⟩ := S.fresh h; ⟨h1, h2, h3, h4⟩

/-- the new entry of the trace -/
theorem entry_ {M : Model} {E : Value → Shared → Prop} {outer : List Env} {L a : Addr} {cls head : Value} {ok : Addr → Prop} {oe : Obj} {vs : Array Value} {hadNext : Bool} {Q : Unit → Shared → Prop}
    (hfr : A.frames = some (env :: outer)) (hl : s.heap.FunFrames noHeap (env :: outer)) (hf : env.frame = some L) (hok : ∀ b, s.heap.get? b = none → ok b) (h0 : ok a)
    (he : s.heap.get? a = some oe) (hc : oe.cls = cls) (hd : oe.data = .fields vs) (hsz : 1 < vs.size)
    (h : ∀ h', Chg ((env :: outer).filterMap (·.frame)) ok s.heap h' → FlyO h' ok cls a true → Q () { s with heap := h' }) :
    wpAny M A (do let a' ← frameOf env; let pl ← entryPlaceOf L hadNext; let b ← EntryCells.newEntry head a' .none (rawInt L) .none pl; setField (.ref a) 1 b) Q E s := by
  have hane : a ∉ (env :: outer).filterMap (·.frame) := fun hm => by
    obtain ⟨_, o, ho, hnf⟩ := hl.mem hm
    rw [he] at ho; cases ho; exact hnf vs hd
  refine wpAny_bind (wpAny_frameOf_fun hfr hl hf fun h₁ hs₁ => ?_)
  refine wpAny_bind (wpAny_entryPlaceOf fun pl hpl => ?_)
  unfold EntryCells.newEntry newFields
  refine wpAny_bind (wpAny_newObj_type ?_ (hpl.sizeOk5 _ _ _ _ _))
  have he₁ : h₁.get? a = some oe := (hs₁.2.1 a hane).trans he
  generalize hT : ({ cls := .type "traceback", dict := none, data := .fields ([head, .ref L, .none, rawInt L, .none] ++ (if pl.isEmpty then List.replicate 6 Value.none else pl)).toArray } : Obj) = oT
  have he₂ := Heap.get?_push_of_some (h := h₁) oT he₁
  refine wpAny_setField he₂ hd hsz (h _ ?_ ?_)
  · have keep : ∀ b o, h₁.get? b = some o → ¬ ok b → ((h₁.push oT).update a (Obj.mapFields (·.setIfInBounds 1 (Value.ref h₁.objs.size)))).get? b = some o := fun b o e n => by
      rw [Heap.get?_update_other _ _ (fun q : a = b => n (q ▸ h0))]
      exact Heap.get?_push_of_some _ e
    refine ⟨fun b o e n => ?_, fun b o e n m => keep b o ((hs₁.2.1 b m).trans e) n⟩
    obtain ⟨sl, e'⟩ := hs₁.2.2 b o e
    exact ⟨sl, keep b _ e' n⟩
  · have hTa : h₁.objs.size ≠ a := Nat.ne_of_gt (Heap.lt_size he₁)
    have hd₃ := Obj.data_mapFields hd (·.setIfInBounds 1 (Value.ref h₁.objs.size))
    have hoT : oT.data = .fields ([head, .ref L, .none, rawInt L, .none] ++ (if pl.isEmpty then List.replicate 6 Value.none else pl)).toArray := by rw [← hT]
    refine ⟨h0, _, _, Heap.get?_update_self _ he₂ (Obj.isFreed_of_fields hd₃), (Obj.cls_mapFields _ _).trans hc, hd₃, by simpa using hsz, .inr ⟨h₁.objs.size, oT, _, rawInt L, by simp [hsz], hok _ ?_, hTa, ?_, hoT, by simp⟩⟩
    · rw [hs₁.1]; exact Heap.get?_none_of_le (Nat.le_refl _)
    · rw [Heap.get?_update_other _ _ (Ne.symm hTa)]
      exact Heap.get?_push_size h₁ (by rw [← hT]; rfl)
theorem note_ {M : Model} {E : Value → Shared → Prop} {outer : List Env} {L a : Addr} {cls : Value} {ok : Addr → Prop} {tr : Bool} {Q : Unit → Shared → Prop}
    (hfr : A.frames = some (env :: outer)) (hl : s.heap.FunFrames noHeap (env :: outer)) (hf : env.frame = some L) (hok : ∀ b, s.heap.get? b = none → ok b) (x : FlyO s.heap ok cls a tr)
    (h : ∀ h', Chg ((env :: outer).filterMap (·.frame)) ok s.heap h' → FlyO h' ok cls a true → Q () { s with heap := h' }) : wpAny M A (noteFrame (.ref a) env) Q E s := by
  obtain ⟨h0, oe, vs, he, hc, hd, hsz, x⟩ := x
  unfold noteFrame
  simp only [hf]
  rcases x with ⟨_, h1⟩ | ⟨T, oT, ts, fl, h1, hT, hTa, hgT, hdT, h3⟩
  · refine wpAny_bind (wpAny_field he hd h1 ?_)
    rw [if_neg (by decide)]
    exact entry_ hfr hl hf hok h0 he hc hd hsz h
  · refine wpAny_bind (wpAny_field he hd h1 ?_)
    rw [if_pos (show (Value.ref T != Value.none) = true from by simp)]
    refine wpAny_bind (wpAny_field hgT hdT h3 ?_)
    by_cases q : (fl == rawInt L) = true
    · rw [if_pos q]
      exact wpAny_pure (h _ (.refl ..) ⟨h0, oe, vs, he, hc, hd, hsz, .inr ⟨T, oT, ts, fl, h1, hT, hTa, hgT, hdT, h3⟩⟩)
    · rw [if_neg q]
      refine wpAny_bind (wpAny_setField hgT hdT (Array.getElem?_eq_some_iff.mp h3).1 ?_)
      have c1 : Chg ((env :: outer).filterMap (·.frame)) ok s.heap (s.heap.update T (Obj.mapFields (·.setIfInBounds 3 Value.none))) := .upd hT _
      have other : ∀ b, b ≠ T → (s.heap.update T (Obj.mapFields (·.setIfInBounds 3 Value.none))).get? b = s.heap.get? b := fun b hb => Heap.get?_update_other _ _ (Ne.symm hb)
      refine entry_ (cls := cls) hfr (hl.of_keeps fun b o hb hnf => ⟨o, (other b fun q => ?_).trans hb, rfl⟩) hf (fun b hb => ?_) h0 ((other a (Ne.symm hTa)).trans he) hc hd hsz fun h' c2 f => h h' (c1.trans c2) f
      · rw [q, hgT] at hb; cases hb; exact hnf ts hdT
      · by_cases q : b = T
        · rw [q]; exact hT
        · exact hok b ((other b q).symm.trans hb)
theorem flight_ {M : Model} {E : Value → Shared → Prop} {a : Addr} {fr : Option Addr} {l : List Addr} {cls : Value} {ok : Addr → Prop} {Q : Unit → Shared → Prop} (x : FlyO s.heap ok cls a true)
    (h : ∀ h', Chg l ok s.heap h' → FlyO h' ok cls a true → Q () { s with heap := h' }) : wpAny M A (setFlight (.ref a) fr) Q E s := by
  obtain ⟨h0, oe, vs, he, hc, hd, hsz, x⟩ := x
  obtain ⟨T, oT, ts, fl, h1, hT, hTa, hgT, hdT, h3⟩ := x.resolve_left nofun
  have h3' := (Array.getElem?_eq_some_iff.mp h3).1
  unfold setFlight
  refine wpAny_bind (wpAny_field he hd h1 ?_)
  rw [if_pos (show (Value.ref T != Value.none) = true from by simp)]
  refine wpAny_setField hgT hdT h3' (h _ (.upd hT _) ⟨h0, oe, vs, (Heap.get?_update_other _ _ hTa).trans he, hc, hd, hsz, .inr ⟨T, _, _, fr.elim .none fun f => rawInt f, h1, hT, hTa, Heap.get?_update_self _ hgT (Obj.isFreed_of_fields (Obj.data_mapFields hdT _)), Obj.data_mapFields hdT _, by simp [h3']⟩⟩)
/-- noted, with a trace from now on -/
noncomputable def Traced (C : Cx) (P : Fz) (own : List Addr) (W : Wd) (c : Nat) (e : Value) (s : Shared) : Prop := ∃ a ca, e = .ref a ∧ C.mg (excNm c) = some (.ref ca) ∧ FlyO s.heap (Loose P own W) (.ref ca) a true
theorem FlyO.any {h : Heap} {ok : Addr → Prop} {cls : Value} {a : Addr} (x : FlyO h ok cls a true) : FlyO h ok cls a false :=
  let ⟨h0, oe, vs, h1, h2, h3, h4, h5⟩ := x; ⟨h0, oe, vs, h1, h2, h3, h4, .inr (h5.resolve_left nofun)⟩
theorem Traced.fly (x : Traced C P own W c e s) : Fly C P own W c e s := let ⟨a, ca, h1, h2, h3⟩ := x; ⟨a, ca, h1, h2, h3.any⟩
theorem Fly.note {M : Model} {E : Value → Shared → Prop} {Q : Unit → Shared → Prop} (x : Fly C P own W c e s) (K : EnvOK σ own env) (O : OwnC own env A) (hA : FrsOK P own A) (S : St C P own W H s) (vs : Vs C P own σ env W ρ s.heap)
    (h : ∀ s', St C P own W H s' → Vs C P own σ env W ρ s'.heap → Traced C P own W c e s' → Q () s') : wpAny M A (noteFrame e env) Q E s := by
  obtain ⟨a, ca, rfl, h2, x⟩ := x
  obtain ⟨outer, hl⟩ := O.head
  obtain ⟨f1, f2⟩ := hA.fun S hl
  exact note_ hl f1 O.fr (fun b hb => S.looseNew hb) x fun h' c' f => h _ (S.chg c' f2) (vs.chg S K c') ⟨a, ca, rfl, h2, f⟩
theorem Traced.flight {M : Model} {E : Value → Shared → Prop} {Q : Unit → Shared → Prop} {fr : Option Addr} (x : Traced C P own W c e s) (K : EnvOK σ own env) (S : St C P own W H s) (vs : Vs C P own σ env W ρ s.heap)
    (h : ∀ s', St C P own W H s' → Vs C P own σ env W ρ s'.heap → Traced C P own W c e s' → Q () s') : wpAny M A (setFlight e fr) Q E s := by
  obtain ⟨a, ca, rfl, h2, x⟩ := x
  exact flight_ (l := []) x fun h' c' f => h _ (S.chg c' fun _ q => absurd q List.not_mem_nil) (vs.chg S K c') ⟨a, ca, rfl, h2, f⟩
theorem Fly.noted {M : Model} {E : Value → Shared → Prop} (x : Fly C P own W c e s) (K : EnvOK σ own env) (O : OwnC own env A) (hA : AOK d A P own) (S : St C P own W H s) (vs : Vs C P own σ env W ρ s.heap)
    (h : ∀ s', St C P own W H s' → Vs C P own σ env W ρ s'.heap → Traced C P own W c e s' → E e s') : notedBy M A env E e s := x.note K O hA.frs S vs h
theorem Traced.cameBack {M : Model} {E : Value → Shared → Prop} (x : Traced C P own W c e s) (K : EnvOK σ own env) (_O : OwnC own env A) (S : St C P own W H s) (vs : Vs C P own σ env W ρ s.heap)
    (h : ∀ s', St C P own W H s' → Vs C P own σ env W ρ s'.heap → Fly C P own W c e s' → E e s') : cameBackBy M A env E e s := by
  have x' := x
  obtain ⟨a, ca, rfl, h2, h0, oe, vs', he, hc, hd, hsz, y⟩ := x'
  obtain ⟨T, oT, ts, fl, h1, _⟩ := y.resolve_left nofun
  unfold cameBackBy
  refine wpAny_bind (wpAny_field he hd h1 ?_)
  rw [if_neg (show ¬ (Value.ref T == Value.none) = true from by simp)]
  exact x.flight K S vs fun s' S' vs' f => h s' S' vs' f.fly
theorem Fly.leaves {M : Model} {E : Value → Shared → Prop} {Q : Unit → Shared → Prop} (x : Fly C P own W c e s) (K : EnvOK σ own env) (O : OwnC own env A) (hA : AOK d A P own) (S : St C P own W H s) (vs : Vs C P own σ env W ρ s.heap)
    (h : ∀ s', St C P own W H s' → Fly C P own W c e s' → Q () s') : wpAny M A (leaving env e) Q E s := by
  unfold leaving
  refine wpAny_bind (x.note K O hA.frs S vs fun s' S' vs' f => ?_)
  exact f.flight K S' vs' fun s₂ S₂ _ f₂ => h s₂ S₂ f₂.fly
end

end Mine
namespace Mine
open PySem PyProof.Rows

noncomputable def cI (i : Int) : ET := fun _ H Q _ => Q (.int i) H
noncomputable def cS (x : Str) : ET := fun _ H Q _ => Q (.str x) H
noncomputable def cN : ET := fun _ H Q _ => Q .none H
noncomputable def cB (b : Bool) : ET := fun _ H Q _ => Q (.bool b) H
noncomputable def nmK (Q : V → Hp → Prop) (H : Hp) (v : V) : Prop := Q v H
noncomputable def nm (i : Nat) : ET := fun ρ H Q _ => got (ρ i) (nmK Q H)
/-- the modules' table stands in what was there at first -/
noncomputable def Mods (C : Cx) : Prop := ∃ o, C.base.get? sysModules = some o

section
variable {C : Cx} {d : Nat} {σ : Sc}

theorem sim_int (i : Int) (k : Nat) (pos : Pos) : SimE C d σ (.Constant (.int i) k pos) (cI i) := by
  intro env P own A W ρ H s Q X QQ E hK hA S vs ht hQ _
  exact wpAny_Constant_int (hQ W H _ _ _ (.refl W) (S.tok _) vs (.int ..) ht)
theorem sim_str (x : Str) (k : Nat) (pos : Pos) : SimE C d σ (.Constant (.str x) k pos) (cS x) := by
  intro env P own A W ρ H s Q X QQ E hK hA S vs ht hQ _
  exact Calls.Constant_str (hQ W H _ _ _ (.refl W) (S.tok _) vs (.str ..) ht)
theorem sim_none (k : Nat) (pos : Pos) : SimE C d σ (.Constant .none k pos) cN := by
  intro env P own A W ρ H s Q X QQ E hK hA S vs ht hQ _
  exact wpAny_pure (hQ W H _ _ _ (.refl W) S vs .none ht)
theorem sim_bool (b : Bool) (k : Nat) (pos : Pos) : SimE C d σ (.Constant (.bool b) k pos) (cB b) := by
  intro env P own A W ρ H s Q X QQ E hK hA S vs ht hQ _
  exact wpAny_pure (hQ W H _ _ _ (.refl W) S vs (.bool b) ht)

/-- x lies at slot i -/
noncomputable def Sc.has (σ : Sc) (x : Str) (i : Nat) : Bool := σ.vars.contains (x, i) && (σ.scope.names.lookup x == some .local || σ.scope.names.lookup x == some .cell) && !(x == ("__debug__" : Str))
theorem Sc.has_spec {σ : Sc} {x : Str} {i : Nat} (h : σ.has x i = true) : (x, i) ∈ σ.vars ∧ (σ.scope.names.lookup x = some .local ∨ σ.scope.names.lookup x = some .cell) ∧ (x == ("__debug__" : Str)) = false := by
  simp only [Sc.has, Bool.and_eq_true, Bool.or_eq_true, List.contains_iff_mem, beq_iff_eq, Bool.not_eq_true'] at h
  exact ⟨h.1.1, h.1.2, h.2⟩

theorem Vs.load {P : Fz} {own : List Addr} {env : Env} {W : Wd} {ρ : Rho} {s : Shared} {A : Around} {QQ : Value → Shared → Prop} {E : Value → Shared → Prop} {x : Str} {i : Nat} {v : V} {pos : Pos}
    (hK : EnvOK σ own env) (vs : Vs C P own σ env W ρ s.heap) (hx : σ.has x i = true) (hv : ρ i = some v) (hQ : ∀ y, Rep C W v y → QQ y s) : wpAny (model C.prog C.w) A (eval (.Name x pos) env) QQ E s := by
  obtain ⟨hm, hk, hd⟩ := Sc.has_spec hx
  have hkind : env.scope.kind = .function := hK.scope ▸ hK.kind
  refine wpAny_Name ?_ hd
  rcases hk with hk | hk
  · obtain ⟨m, hns, hvar⟩ := vs.ns
    obtain ⟨y, hy, hr⟩ := hvar x i hm hk v hv
    exact wpAny_loadName_local hkind (by show env.scope.names.lookup x = _; rw [hK.scope]; exact hk) hns hy (hQ y hr)
  · obtain ⟨c, cv, h1, h2, _, _, h3⟩ := vs.cell x i hm hk
    obtain ⟨y, hy, hr⟩ := h3 v hv
    subst hy
    exact wpAny_loadName_cell hkind (by show env.scope.names.lookup x = _; rw [hK.scope]; exact hk) h1 h2 (hQ y hr)

theorem sim_nm {x : Str} {i : Nat} {pos : Pos} (hx : σ.has x i = true) : SimE C d σ (.Name x pos) (nm i) := by
  intro env P own A W ρ H s Q X QQ E hK hA S vs ht hQ _
  obtain ⟨v, hv, hq⟩ := ht.ex
  exact vs.load hK hx hv fun y hr => hQ W H s v y (.refl W) S vs hr hq

theorem Mods.ne (hM : Mods C) {P : Fz} {own : List Addr} {W : Wd} {H : Hp} {s : Shared} {a : Addr} (S : St C P own W H s) (h : W.F a = none) : a ≠ sysModules := by
  rintro rfl
  obtain ⟨o, ho⟩ := hM
  rw [S.base _ _ ho] at h; cases h
/-- two parts, one behind the other -/
theorem SimE.two {l r : Expr} {tl tr : ET} (h1 : SimE C d σ l tl) (h2 : SimE C d σ r tr)
    {env : Env} {P : Fz} {own : List Addr} {A : Around} {W : Wd} {ρ : Rho} {H : Hp} {s : Shared} {G : V → V → Hp → Prop} {X : XP} {QQ : Value → Value → Shared → Prop} {E : Value → Shared → Prop}
    (hK : EnvOK σ own env) (hA : AOK d A P own) (S : St C P own W H s) (vs : Vs C P own σ env W ρ s.heap)
    (ht : tl ρ H (fun a H1 => tr ρ H1 (fun b H2 => G a b H2) X) X)
    (hQ : ∀ W' H' s' a b x y, W.Le W' → St C P own W' H' s' → Vs C P own σ env W' ρ s'.heap → Rep C W' a x → Rep C W' b y → G a b H' → QQ x y s')
    (hE : ∀ W' H' s' c e, W.Le W' → St C P own W' H' s' → Vs C P own σ env W' ρ s'.heap → Fly C P own W' c e s' → X c H' → E e s') :
    wpAny (model C.prog C.w) A (eval l env) (fun x s₁ => wpAny (model C.prog C.w) A (eval r env) (fun y s₂ => QQ x y s₂) E s₁) E s := by
  refine h1 env P own A W ρ H s _ X _ E hK hA S vs ht (fun W₁ H₁ s₁ a x le₁ S₁ vs₁ ra hq => ?_) hE
  refine h2 env P own A W₁ ρ H₁ s₁ _ X _ E hK hA S₁ vs₁ hq (fun W₂ H₂ s₂ b y le₂ S₂ vs₂ rb hq₂ => ?_) fun W' H' s' c e le => hE W' H' s' c e (le₁.trans le)
  exact hQ W₂ H₂ s₂ a b x y (le₁.trans le₂) S₂ vs₂ (ra.mono le₂) rb hq₂

end
end Mine
namespace Mine
open PySem PyProof.Rows

/-- the list that a cell of the small heap holds -/
noncomputable def cellL : Option MO → Option (List V)
  | some (.lst xs) => some xs
  | _ => none
theorem cellL_eq {o : Option MO} {xs : List V} (h : cellL o = some xs) : o = some (.lst xs) := by
  cases o with
  | none => cases h
  | some m => cases m <;> first | (cases h; rfl) | cases h
/-- the items of a list -/
noncomputable def asL : V → Hp → Option (List V)
  | .lst xs, _ => some xs
  | .ref n, H => cellL H[n]?
  | _, _ => none
section
variable {C : Cx} {P : Fz} {own : List Addr} {W : Wd} {H : Hp} {s : Shared}
theorem Rep.isTup {xs : List V} {x : Value} (r : Rep C W (.tup xs) x) (S : St C P own W H s) : ∃ a l, x = .ref a ∧ IsTup s.heap a l.toArray ∧ RepL C W xs l := by
  cases r with
  | tup h1 h2 h3 h4 => exact ⟨_, _, rfl, ⟨_, S.fin _ _ h1, h2, _, by simpa using h3⟩, h4⟩
theorem asL_spec {v : V} {x : Value} {xs : List V} (r : Rep C W v x) (S : St C P own W H s) (h : asL v H = some xs) : ∃ a l, x = .ref a ∧ s.heap.IsList a l.toArray ∧ RepL C W xs l := by
  cases r with
  | lst h1 h2 h3 h4 => cases h; exact ⟨_, _, rfl, ⟨_, S.fin _ _ h1, h2, _, by simpa using h3⟩, h4⟩
  | @ref n a hφ =>
    obtain ⟨a', o, h1, _, h3, items, k, rfl, hl⟩ := S.hp.at_ n _ (cellL_eq h) (by intro q; cases q)
    rw [hφ] at h1; cases h1
    exact ⟨_, _, rfl, ⟨_, h3, rfl, k, by simp⟩, hl⟩
  | _ => cases h
end

/-! binary operators -/
noncomputable def ints2 (f : Int → Int → Prop) : V → V → Prop
  | .int a, .int b => f a b
  | _, _ => False
noncomputable def addL (a b : V) (H : Hp) (Q : V → Hp → Prop) : Prop := got (asL a H) fun xs => got (asL b H) fun ys => xs.length + ys.length ≤ sizeLine ∧ Q (.lst (xs ++ ys)) H
theorem addL.ex {a b : V} {H : Hp} {Q : V → Hp → Prop} (h : addL a b H Q) : ∃ xs ys, asL a H = some xs ∧ asL b H = some ys ∧ xs.length + ys.length ≤ sizeLine ∧ Q (.lst (xs ++ ys)) H := by
  obtain ⟨xs, h1, h⟩ := got.ex h
  obtain ⟨ys, h2, h⟩ := got.ex h
  exact ⟨xs, ys, h1, h2, h⟩
noncomputable def addV : V → V → Hp → (V → Hp → Prop) → Prop
  | .int a, c, H, Q => gotI c fun b => Q (.int (a + b)) H
  | .str x, c, H, Q => gotS c fun y => x.length + y.length ≤ sizeLine ∧ Q (.str (x ++ y)) H
  | .tup xs, c, H, Q => gotT c fun ys => xs.length + ys.length ≤ sizeLine ∧ Q (.tup (xs ++ ys)) H
  | a, b, H, Q => addL a b H Q
noncomputable def binop (op : Operator) (a b : V) (H : Hp) (Q : V → Hp → Prop) : Prop := match op with
  | .Add => addV a b H Q
  | .Sub => ints2 (fun a b => Q (.int (a - b)) H) a b
  | .Mult => ints2 (fun a b => ((-(2 ^ 64) < a ∧ a < 2 ^ 64) ∨ (-(2 ^ 64) < b ∧ b < 2 ^ 64)) ∧ Q (.int (a * b)) H) a b
  | .FloorDiv => ints2 (fun a b => (0 < b ∧ b < 1073741824) ∧ Q (.int (a / b)) H) a b
  | .Mod => ints2 (fun a b => 0 < b ∧ Q (.int (a % b)) H) a b
  | _ => False
noncomputable def binB (op : Operator) (Q : V → Hp → Prop) (x y : V) (H : Hp) : Prop := binop op x y H Q
noncomputable def binA (op : Operator) (b : ET) (ρ : Rho) (Q : V → Hp → Prop) (X : XP) (x : V) (H : Hp) : Prop := b ρ H (binB op Q x) X
noncomputable def bin (op : Operator) (a b : ET) : ET := fun ρ H Q X => a ρ H (binA op b ρ Q X) X

section
variable {prog : Program} {w : World} {A : Around} {E : Value → Shared → Prop} {s : Shared}
theorem addLists {l b : Addr} {vs ws : List Value} {Q : Value → Shared → Prop} (hl : s.heap.IsList l vs.toArray) (hb : s.heap.IsList b ws.toArray)
    (h : Q (.ref s.heap.objs.size) { s with heap := s.heap.push { cls := .type "list", data := .seq (vs ++ ws).toArray } }) (hsz : vs.length + ws.length ≤ sizeLine) :
    wpAny (model prog w) A (binaryOp .Add (.ref l) (.ref b)) Q E s := by
  obtain ⟨⟨cls, dd, data, sl⟩, ho, hc, n, hd⟩ := id hl
  obtain ⟨⟨cls2, dd2, data2, sl2⟩, ho2, hc2, n2, hd2⟩ := id hb
  simp only at hc hd hc2 hd2
  subst hc hd hc2 hd2
  refine concat_meets ⟨_, ho, rfl⟩ ⟨_, ho2, rfl⟩ noFill_list_add seq_list_add PySem.F.slot_list_add PySem.F.entry_list_add (PySem.F.args_list_add_2 _ _) (list_addW l b vs.toArray ws.toArray n n2 dd dd2 sl sl2 (by simpa using hsz)) ⟨ho, ho2, ?_⟩
  rw [show vs.toArray ++ ws.toArray = (vs ++ ws).toArray by simp]
  exact h
theorem addTups {t b : Addr} {vs ws : List Value} {Q : Value → Shared → Prop} (ht : IsTup s.heap t vs.toArray) (hb : IsTup s.heap b ws.toArray) (h0 : vs = [] → Q (.ref b) s) (h1 : vs ≠ [] → ws = [] → Q (.ref t) s)
    (h2 : Q (.ref s.heap.objs.size) { s with heap := s.heap.push { cls := .type "tuple", data := .seq (vs ++ ws).toArray } }) (hsz : vs.length + ws.length ≤ sizeLine) :
    wpAny (model prog w) A (binaryOp .Add (.ref t) (.ref b)) Q E s := by
  obtain ⟨⟨cls, dd, data, sl⟩, ho, hc, n, hd⟩ := id ht
  obtain ⟨⟨cls2, dd2, data2, sl2⟩, ho2, hc2, n2, hd2⟩ := id hb
  simp only at hc hd hc2 hd2
  subst hc hd hc2 hd2
  by_cases hv : vs = []
  · exact concat_meets ⟨_, ho, rfl⟩ ⟨_, ho2, rfl⟩ noFill_tuple_add seq_tuple_add PySem.F.slot_tuple_add PySem.F.entry_tuple_add (PySem.F.args_tuple_add_2 _ _)
      (tuple_addW0 t b vs.toArray ws.toArray n n2 dd dd2 sl sl2 (by simp [hv])) ⟨ho, ho2, h0 hv⟩
  · by_cases hw : ws = []
    · exact concat_meets ⟨_, ho, rfl⟩ ⟨_, ho2, rfl⟩ noFill_tuple_add seq_tuple_add PySem.F.slot_tuple_add PySem.F.entry_tuple_add (PySem.F.args_tuple_add_2 _ _)
        (tuple_addW1 t b vs.toArray ws.toArray n n2 dd dd2 sl sl2 (by simpa using hv) (by simp [hw])) ⟨ho, ho2, h1 hv hw⟩
    · refine concat_meets ⟨_, ho, rfl⟩ ⟨_, ho2, rfl⟩ noFill_tuple_add seq_tuple_add PySem.F.slot_tuple_add PySem.F.entry_tuple_add (PySem.F.args_tuple_add_2 _ _)
        (tuple_addW2 t b vs.toArray ws.toArray n n2 dd dd2 sl sl2 (by simpa using hv) (by simpa using hw) (by rw [List.size_toArray, List.size_toArray]; exact hsz)) ⟨ho, ho2, ?_⟩
      rw [show vs.toArray ++ ws.toArray = (vs ++ ws).toArray by simp]
      exact h2
end

theorem Heap.push_keeps {h : Heap} (o : Obj) : ∀ b o', h.get? b = some o' → (h.push o).get? b = some o' := fun _ _ e => Heap.get?_push_of_some o e
theorem Heap.none_size (h : Heap) : h.get? h.objs.size = none := by
  cases q : h.get? h.objs.size with
  | none => rfl
  | some o => exact absurd (Heap.lt_size q) (Nat.lt_irrefl _)

section
variable {C : Cx} {P : Fz} {own : List Addr} {W : Wd} {H : Hp} {s : Shared} {σ : Sc} {env : Env} {ρ : Rho} {A : Around}

/-- a new object, laid and frozen -/
theorem St.pushF (S : St C P own W H s) (o : Obj) (hf : o.isFreed = false) : W.Le (W.addF s.heap.objs.size o) ∧ St C P own (W.addF s.heap.objs.size o) H { s with heap := s.heap.push o } :=
  S.addF (Heap.push_keeps o) (Heap.none_size _) (Heap.get?_push_size _ hf) rfl rfl
theorem St.pushG (S : St C P own W H s) (o : Obj) : St C P own W H { s with heap := s.heap.push o } := S.keeps (Heap.push_keeps o) rfl rfl

theorem ints2_inv {f : Int → Int → Prop} {a b : V} (h : ints2 f a b) : ∃ i j, a = .int i ∧ b = .int j ∧ f i j := by
  cases a with
  | int x => cases b with
    | int y => exact ⟨_, _, rfl, rfl, h⟩
    | _ => exact h.elim
  | _ => exact h.elim
theorem Rep.intOf {i : Int} {x : Value} (h : Rep C W (.int i) x) : ∃ t, x = .int i t := by cases h; exact ⟨_, rfl⟩
theorem Rep.strOf {i : Str} {x : Value} (h : Rep C W (.str i) x) : ∃ t, x = .str i t := by cases h; exact ⟨_, rfl⟩
section
variable {a b : V} {x y : Value} {Q : V → Hp → Prop} {QQ : Value → Shared → Prop} {E : Value → Shared → Prop} (S : St C P own W H s) (vs : Vs C P own σ env W ρ s.heap) (ra : Rep C W a x) (rb : Rep C W b y) (hQ : ∀ W' H' s' v x, W.Le W' → St C P own W' H' s' → Vs C P own σ env W' ρ s'.heap → Rep C W' v x → Q v H' → QQ x s')
include ra rb in
theorem bin_ints {f : Int → Int → Prop} (ht : ints2 f a b) : ∃ i t j u, x = .int i t ∧ y = .int j u ∧ f i j := by
  obtain ⟨i, j, rfl, rfl, e⟩ := ints2_inv ht
  obtain ⟨t, rfl⟩ := ra.intOf
  obtain ⟨u, rfl⟩ := rb.intOf
  exact ⟨i, t, j, u, rfl, rfl, e⟩
include S vs hQ in
theorem add_strs {u v : Str} {t t' : Tok} (hsz : u.length + v.length ≤ sizeLine) (ht : Q (.str (u ++ v)) H) : wpAny (model C.prog C.w) A (binaryOp .Add (.str u t) (.str v t')) QQ E s := by
  refine PySem.P.add_str ?_
  by_cases h0 : u.length = 0
  · rw [if_pos (by simp [h0])]
    refine hQ W H _ _ _ (.refl W) S vs (.str ..) ?_
    have : u ++ v = v := by
      have e : u = Str.empty := by
        obtain ⟨cps⟩ := u
        have : cps = #[] := Array.eq_empty_of_size_eq_zero h0
        subst this; rfl
      rw [e, Str.empty_append]
    rwa [this] at ht
  · rw [if_neg (by simpa using h0)]
    by_cases h1 : v.length = 0
    · rw [if_pos (by simp [h1])]
      refine hQ W H _ _ _ (.refl W) S vs (.str ..) ?_
      have : u ++ v = u := by
        have e : v = Str.empty := by
          obtain ⟨cps⟩ := v
          have : cps = #[] := Array.eq_empty_of_size_eq_zero h1
          subst this; rfl
        rw [e, Str.append_empty]
      rwa [this] at ht
    · rw [if_neg (by simpa using h1)]
      exact ⟨by rw [strLen_append]; exact hsz, hQ W H _ _ _ (.refl W) (S.tok _) vs (.str ..) ht⟩
include S vs ra rb hQ in
theorem addL_sim (ht : ∃ xs ys, asL a H = some xs ∧ asL b H = some ys ∧ xs.length + ys.length ≤ sizeLine ∧ Q (.lst (xs ++ ys)) H) : wpAny (model C.prog C.w) A (binaryOp .Add x y) QQ E s := by
  obtain ⟨xs, ys, ha, hb, hsz, ht⟩ := ht
  obtain ⟨a, l, rfl, ht1, hl1⟩ := asL_spec ra S ha
  obtain ⟨b, k, rfl, ht2, hl2⟩ := asL_spec rb S hb
  refine addLists ht1 ht2 ?_ (by rw [← hl1.length, ← hl2.length]; exact hsz)
  obtain ⟨le, S'⟩ := S.pushF { cls := .type "list", data := .seq (l ++ k).toArray } rfl
  exact hQ _ H _ _ _ le S' ((vs.keeps (Heap.push_keeps _)).mono le) (.lst (Wd.addF_at ..) rfl rfl (by simpa using (hl1.append hl2).mono le)) ht
include S vs ra rb hQ in
theorem addV_sim (ht : addV a b H Q) : wpAny (model C.prog C.w) A (binaryOp .Add x y) QQ E s := by
  cases a with
  | int i =>
    obtain ⟨j, rfl, ht⟩ := gotI.ex ht
    obtain ⟨t, rfl⟩ := ra.intOf
    obtain ⟨u, rfl⟩ := rb.intOf
    exact PySem.P.add_int (hQ W H _ _ _ (.refl W) (S.tok _) vs (.int ..) ht)
  | str u =>
    obtain ⟨v, rfl, ht⟩ := gotS.ex ht
    obtain ⟨t, rfl⟩ := ra.strOf
    obtain ⟨u, rfl⟩ := rb.strOf
    exact add_strs S vs hQ ht.1 ht.2
  | tup xs =>
    obtain ⟨ys, rfl, hsz, ht⟩ := gotT.ex ht
    obtain ⟨a, l, rfl, ht1, hl1⟩ := ra.isTup S
    obtain ⟨b, k, rfl, ht2, hl2⟩ := rb.isTup S
    refine addTups ht1 ht2 (fun e => ?_) (fun _ e => ?_) ?_ (by rw [← hl1.length, ← hl2.length]; exact hsz)
    · subst e; cases hl1
      exact hQ W H s _ _ (.refl W) S vs rb (by simpa using ht)
    · subst e; cases hl2
      exact hQ W H s _ _ (.refl W) S vs ra (by simpa using ht)
    · obtain ⟨le, S'⟩ := S.pushF { cls := .type "tuple", data := .seq (l ++ k).toArray } rfl
      exact hQ _ H _ _ _ le S' ((vs.keeps (Heap.push_keeps _)).mono le) (.tup (Wd.addF_at ..) rfl rfl (by simpa using (hl1.append hl2).mono le)) ht
  | _ => exact addL_sim S vs ra rb hQ (addL.ex ht)
include S vs ra rb hQ in
theorem binop_sim {op : Operator} (ht : binop op a b H Q) : wpAny (model C.prog C.w) A (binaryOp op x y) QQ E s := by
  cases op with
  | Add => exact addV_sim S vs ra rb hQ ht
  | Sub =>
    obtain ⟨i, t, j, u, rfl, rfl, ht⟩ := bin_ints ra rb ht
    exact PySem.P.sub_int (hQ W H _ _ _ (.refl W) (S.tok _) vs (.int ..) ht)
  | Mult =>
    obtain ⟨i, t, j, u, rfl, rfl, hm, ht⟩ := bin_ints ra rb ht
    refine PySem.P.mul_int (hQ W H _ _ _ (.refl W) (S.tok _) vs (.int ..) ht) ?_
    rcases hm with hm | hm
    · exact IntMulOk.of_left (intBits_le_64 hm.1 hm.2)
    · exact IntMulOk.of_right (intBits_le_64 hm.1 hm.2)
  | FloorDiv =>
    obtain ⟨i, t, j, u, rfl, rfl, hb, ht⟩ := bin_ints ra rb ht
    refine floordiv_int (by (first | lia | omega)) (hQ W H _ _ _ (.refl W) (S.tok _) vs (.int ..) ?_) (.inl (PyProof.noPylong_small (by (first | lia | omega))))
    rw [Int.fdiv_eq_ediv_of_nonneg _ (by (first | lia | omega))]; exact ht
  | Mod =>
    obtain ⟨i, t, j, u, rfl, rfl, hb, ht⟩ := bin_ints ra rb ht
    refine mod_int' (by (first | lia | omega)) (hQ W H _ _ _ (.refl W) (S.tok _) vs (.int ..) ?_)
    rw [Int.fmod_eq_emod_of_nonneg _ (by (first | lia | omega))]; exact ht
  | _ => exact ht.elim
end
end

theorem sim_bin {C : Cx} {d : Nat} {σ : Sc} {l r : Expr} {op : Operator} {pos : Pos} {tl tr : ET} (h1 : SimE C d σ l tl) (h2 : SimE C d σ r tr) : SimE C d σ (.BinOp l op r pos) (bin op tl tr) := by
  intro env P own A W ρ H s Q X QQ E hK hA S vs ht hQ hE
  refine wpAny_BinOp (SimE.two h1 h2 hK hA S vs ht (fun W' H' s' a b x y le S' vs' ra rb hg => ?_) hE)
  exact binop_sim S' vs' ra rb (fun W₂ H₂ s₂ v x le₂ => hQ W₂ H₂ s₂ v x (le.trans le₂)) hg

end Mine
namespace Mine
open PySem PyProof.Rows PySem.SeqAt

/-! comparisons -/
noncomputable def strsOf : List V → Option (List Str)
  | [] => some []
  | .str x :: r => (strsOf r).map (x :: ·)
  | _ :: _ => none
noncomputable def asTL : V → Hp → Option (List V)
  | .tup xs, _ => some xs
  | v, H => asL v H
noncomputable def inStrs (x : Str) (c : V) (H : Hp) : Option Bool := ((asTL c H).bind strsOf).map (·.contains x)
noncomputable def V.isNone : V → Bool
  | .none => true
  | _ => false
noncomputable def eqV : V → V → Option Bool
  | .str x, .str y => some (decide (x = y))
  | .int a, .int b => some (decide (a = b))
  | _, _ => none
noncomputable def neV : V → V → Option Bool
  | .str x, .str y => some (decide (x ≠ y))
  | .int a, .int b => some (decide (a ≠ b))
  | _, _ => none
noncomputable def intsV (f : Int → Int → Bool) : V → V → Option Bool
  | .int a, .int b => some (f a b)
  | _, _ => none
noncomputable def inV : V → V → Hp → Option Bool
  | .str x, c, H => inStrs x c H
  | _, _, _ => none
noncomputable def isV (v : V) : V → Option Bool
  | .none => some v.isNone
  | _ => none
noncomputable def cmpop (op : CmpOp) (a b : V) (H : Hp) : Option Bool := match op with
  | .Eq => eqV a b
  | .NotEq => neV a b
  | .Lt => intsV (fun a b => decide (a < b)) a b
  | .LtE => intsV (fun a b => decide (a ≤ b)) a b
  | .Gt => intsV (fun a b => decide (b < a)) a b
  | .GtE => intsV (fun a b => decide (b ≤ a)) a b
  | .In => inV a b H
  | .NotIn => (inV a b H).map (!·)
  | .Is => isV a b
  | .IsNot => (isV a b).map (!·)
noncomputable def boK (Q : V → Hp → Prop) (H : Hp) (r : Bool) : Prop := Q (.bool r) H
noncomputable def cmpB (op : CmpOp) (Q : V → Hp → Prop) (x y : V) (H : Hp) : Prop := got (cmpop op x y H) (boK Q H)
noncomputable def cmpA (op : CmpOp) (b : ET) (ρ : Rho) (Q : V → Hp → Prop) (X : XP) (x : V) (H : Hp) : Prop := b ρ H (cmpB op Q x) X
noncomputable def cmp (op : CmpOp) (a b : ET) : ET := fun ρ H Q X => a ρ H (cmpA op b ρ Q X) X
noncomputable def teK (Q : Bool → Hp → Prop) (H : Hp) (r : Bool) : Prop := Q r H
noncomputable def tcB (op : CmpOp) (Q : Bool → Hp → Prop) (x y : V) (H : Hp) : Prop := got (cmpop op x y H) (teK Q H)
noncomputable def tcA (op : CmpOp) (b : ET) (ρ : Rho) (Q : Bool → Hp → Prop) (X : XP) (x : V) (H : Hp) : Prop := b ρ H (tcB op Q x) X
noncomputable def tCmp (op : CmpOp) (a b : ET) : BT := fun ρ H Q X => a ρ H (tcA op b ρ Q X) X

section
variable {C : Cx} {P : Fz} {own : List Addr} {W : Wd} {H : Hp} {s : Shared} {A : Around}

theorem Rep.isStr {i : Str} {x : Value} (h : Rep C W (.str i) x) : ∃ t, x = .str i t := by cases h; exact ⟨_, rfl⟩
theorem strsOf_eq : ∀ {vs : List V} {l : List Str}, strsOf vs = some l → vs = l.map V.str
  | [], l, h => by cases h; rfl
  | v :: r, l, h => by
    cases v <;> first | (cases h; done) | skip
    obtain ⟨l', hl, rfl⟩ := Option.map_eq_some_iff.mp h
    rw [strsOf_eq hl]; rfl
theorem strs_are : ∀ (l : List Str) (xs : List Value), RepL C W (l.map V.str) xs → StrsAre xs l
  | [], xs, h => by rw [h.inv0]; exact .nil
  | s :: l, xs, h => by
    obtain ⟨x, ys, rfl, h1, h2⟩ := h.inv
    obtain ⟨t, rfl⟩ := h1.isStr
    exact .cons s t (strs_are l ys h2)
noncomputable def isS (x : Str) : Value → Bool
  | .str y _ => y == x
  | _ => false
theorem strs_spec (x : Str) (t : Tok) {xs : List Value} {l : List Str} (h : StrsAre xs l) : (∀ y ∈ xs, ∀ (A : Around) (s : Shared), EqAt A s y (.str x t) (isS x y)) ∧ xs.any (isS x) = l.contains x := by
  induction h with
  | nil => exact ⟨fun y hy => (by cases hy), rfl⟩
  | cons y u _ ih =>
    refine ⟨fun z hz A s => ?_, ?_⟩
    · rcases List.mem_cons.mp hz with rfl | hz
      · exact EqAt.str_str _ _ _ _
      · exact ih.1 z hz A s
    · rw [List.any_cons, List.contains_cons, ih.2]
      show (y == x || _) = (x == y || _)
      rw [BEq.comm]
theorem strsOf_spec {vs : List V} {xs : List Value} {l : List Str} (h : RepL C W vs xs) (e : strsOf vs = some l) (x : Str) (t : Tok) : ∃ e : Value → Bool, (∀ y ∈ xs, ∀ (A : Around) (s : Shared), EqAt A s y (.str x t) (e y)) ∧ xs.any e = l.contains x :=
  ⟨isS x, strs_spec x t (strs_are l xs (strsOf_eq e ▸ h))⟩

theorem asTL_spec {v : V} {x : Value} {xs : List V} (r : Rep C W v x) (S : St C P own W H s) (h : asTL v H = some xs) : ∃ a l, x = .ref a ∧ (s.heap.IsList a l.toArray ∨ IsTup s.heap a l.toArray) ∧ RepL C W xs l := by
  cases v with
  | tup ys =>
    cases h
    obtain ⟨a, l, h1, h2, h3⟩ := r.isTup S
    exact ⟨a, l, h1, .inr h2, h3⟩
  | _ =>
    obtain ⟨a, l, h1, h2, h3⟩ := asL_spec r S h
    exact ⟨a, l, h1, .inl h2, h3⟩

theorem V.isNone_spec {v : V} {x : Value} (r : Rep C W v x) : plainIs x .none = true ∧ (x == Value.none) = v.isNone := by
  cases r <;> refine ⟨rfl, ?_⟩ <;> first | rfl | exact beq_eq_false_iff_ne.mpr nofun

theorem eqV_inv {a b : V} {r : Bool} (h : eqV a b = some r) : (∃ x y, a = .str x ∧ b = .str y ∧ decide (x = y) = r) ∨ ∃ i j, a = .int i ∧ b = .int j ∧ decide (i = j) = r := by
  cases a with
  | str x => cases b with
    | str y => exact .inl ⟨_, _, rfl, rfl, Option.some.inj h⟩
    | _ => cases h
  | int x => cases b with
    | int y => exact .inr ⟨_, _, rfl, rfl, Option.some.inj h⟩
    | _ => cases h
  | _ => cases h
theorem neV_inv {a b : V} {r : Bool} (h : neV a b = some r) : (∃ x y, a = .str x ∧ b = .str y ∧ decide (x ≠ y) = r) ∨ ∃ i j, a = .int i ∧ b = .int j ∧ decide (i ≠ j) = r := by
  cases a with
  | str x => cases b with
    | str y => exact .inl ⟨_, _, rfl, rfl, Option.some.inj h⟩
    | _ => cases h
  | int x => cases b with
    | int y => exact .inr ⟨_, _, rfl, rfl, Option.some.inj h⟩
    | _ => cases h
  | _ => cases h
theorem intsV_inv {f : Int → Int → Bool} {a b : V} {r : Bool} (h : intsV f a b = some r) : ∃ i j, a = .int i ∧ b = .int j ∧ f i j = r := by
  cases a with
  | int x => cases b with
    | int y => exact ⟨_, _, rfl, rfl, Option.some.inj h⟩
    | _ => cases h
  | _ => cases h
theorem isV_inv {a b : V} {r : Bool} (h : isV a b = some r) : b = .none ∧ a.isNone = r := by
  cases b <;> first | exact ⟨rfl, Option.some.inj h⟩ | cases h
theorem inV_inv {a b : V} {r : Bool} (h : inV a b H = some r) : ∃ x l xs, a = .str x ∧ asTL b H = some xs ∧ strsOf xs = some l ∧ l.contains x = r := by
  cases a with
  | str x =>
    obtain ⟨l, hl, e⟩ := Option.map_eq_some_iff.mp h
    obtain ⟨xs, h1, h2⟩ := Option.bind_eq_some_iff.mp hl
    exact ⟨x, l, xs, rfl, h1, h2, e⟩
  | _ => cases h
theorem Rep.isIntV {i : Int} {x : Value} (h : Rep C W (.int i) x) : ∃ t, x = .int i t := by cases h; exact ⟨_, rfl⟩
theorem Rep.isNoneV {x : Value} (h : Rep C W .none x) : x = .none := by cases h; rfl
section
variable {a b : V} {x y : Value} {r : Bool} {QQ : Value → Shared → Prop} {E : Value → Shared → Prop} (S : St C P own W H s) (ra : Rep C W a x) (rb : Rep C W b y)
include ra rb in
theorem cmp_ints {f : Int → Int → Bool} (ht : intsV f a b = some r) : ∃ i t j u, x = .int i t ∧ y = .int j u ∧ f i j = r := by
  obtain ⟨i, j, rfl, rfl, e⟩ := intsV_inv ht
  obtain ⟨t, rfl⟩ := ra.isIntV
  obtain ⟨u, rfl⟩ := rb.isIntV
  exact ⟨i, t, j, u, rfl, rfl, e⟩
include S ra rb in
theorem cmp_in (ht : inV a b H = some r) : ∃ z t ad ys e, x = .str z t ∧ y = .ref ad ∧ (s.heap.IsList ad ys ∨ IsTup s.heap ad ys) ∧ (∀ v ∈ ys, ∀ (A : Around) (s : Shared), EqAt A s v (.str z t) (e v)) ∧ ys.any e = r := by
  obtain ⟨z, l, xs, rfl, hxs, hl, rfl⟩ := inV_inv ht
  obtain ⟨t, rfl⟩ := ra.isStr
  obtain ⟨ad, ys, rfl, hh, hr⟩ := asTL_spec rb S hxs
  obtain ⟨e, he, ha⟩ := strsOf_spec hr hl z t
  exact ⟨z, t, ad, ys.toArray, e, rfl, rfl, hh, fun v hv => he v (by simpa using hv), by rw [List.any_toArray, ha]⟩
include S ra rb in
theorem cmpop_sim {op : CmpOp} (ht : cmpop op a b H = some r) (hQ : QQ (.bool r) s) : wpAny (model C.prog C.w) A (compareOp op x y) QQ E s := by
  cases op with
  | Eq =>
    rcases eqV_inv ht with ⟨u, v, rfl, rfl, rfl⟩ | ⟨i, j, rfl, rfl, rfl⟩
    · obtain ⟨t, rfl⟩ := ra.isStr
      obtain ⟨t', rfl⟩ := rb.isStr
      exact PySem.P.eq_str (by rw [str_beq]; exact hQ)
    · obtain ⟨t, rfl⟩ := ra.isIntV
      obtain ⟨t', rfl⟩ := rb.isIntV
      exact PySem.P.eq_int hQ
  | NotEq =>
    rcases neV_inv ht with ⟨u, v, rfl, rfl, rfl⟩ | ⟨i, j, rfl, rfl, rfl⟩
    · obtain ⟨t, rfl⟩ := ra.isStr
      obtain ⟨t', rfl⟩ := rb.isStr
      refine PySem.P.ne_str ?_
      have : (u.cps.toList != v.cps.toList) = decide (u ≠ v) := by rw [bne, str_beq, decide_not]; rfl
      rw [this]; exact hQ
    · obtain ⟨t, rfl⟩ := ra.isIntV
      obtain ⟨t', rfl⟩ := rb.isIntV
      refine PySem.P.ne_int ?_
      have : (i != j) = decide (i ≠ j) := by rw [bne, decide_not]; rfl
      rw [this]; exact hQ
  | Lt => obtain ⟨i, t, j, u, rfl, rfl, rfl⟩ := cmp_ints ra rb ht; exact PySem.P.lt_int hQ
  | LtE => obtain ⟨i, t, j, u, rfl, rfl, rfl⟩ := cmp_ints ra rb ht; exact PySem.P.le_int hQ
  | Gt => obtain ⟨i, t, j, u, rfl, rfl, rfl⟩ := cmp_ints ra rb ht; exact PySem.P.gt_int hQ
  | GtE => obtain ⟨i, t, j, u, rfl, rfl, rfl⟩ := cmp_ints ra rb ht; exact PySem.P.ge_int hQ
  | In =>
    obtain ⟨z, t, ad, ys, e, rfl, rfl, hh, he, rfl⟩ := cmp_in S ra rb ht
    rcases hh with hh | hh
    · exact in_listAt e hh (fun v hv => he v hv _ _) hQ
    · exact in_tupleAt e hh (fun v hv => he v hv _ _) hQ
  | NotIn =>
    obtain ⟨r', ht', rfl⟩ := Option.map_eq_some_iff.mp ht
    obtain ⟨z, t, ad, ys, e, rfl, rfl, hh, he, rfl⟩ := cmp_in S ra rb ht'
    rcases hh with hh | hh
    · exact notIn_listAt e hh (fun v hv => he v hv _ _) hQ
    · exact notIn_tupleAt e hh (fun v hv => he v hv _ _) hQ
  | Is =>
    obtain ⟨rfl, rfl⟩ := isV_inv ht
    obtain rfl := rb.isNoneV
    obtain ⟨h1, h2⟩ := V.isNone_spec ra
    exact wpAny_is_plain h1 (by rw [h2]; exact hQ)
  | IsNot =>
    obtain ⟨r', ht', rfl⟩ := Option.map_eq_some_iff.mp ht
    obtain ⟨rfl, rfl⟩ := isV_inv ht'
    obtain rfl := rb.isNoneV
    obtain ⟨h1, h2⟩ := V.isNone_spec ra
    exact wpAny_isNot_plain h1 (by rw [h2]; exact hQ)
end
end

section
variable {C : Cx} {d : Nat} {σ : Sc}
theorem sim_cmp {l r : Expr} {op : CmpOp} {pos : Pos} {tl tr : ET} (h1 : SimE C d σ l tl) (h2 : SimE C d σ r tr) (hm : behindInMarks op r = false) : SimE C d σ (.Compare l [op] [r] pos) (cmp op tl tr) := by
  intro env P own A W ρ H s Q X QQ E hK hA S vs ht hQ hE
  refine wpAny_Compare1 (SimE.two h1 h2 hK hA S vs ht (fun W' H' s' a b x y le S' vs' ra rb hg => ?_) hE) hm
  obtain ⟨q, hq, hg⟩ := hg.ex
  exact cmpop_sim S' ra rb hq (hQ W' H' s' _ _ le S' vs' (.bool q) hg)
theorem simT_cmp {l r : Expr} {op : CmpOp} {pos : Pos} {tl tr : ET} (h1 : SimE C d σ l tl) (h2 : SimE C d σ r tr) (hm : behindInMarks op r = false) : SimT C d σ (.Compare l [op] [r] pos) (tCmp op tl tr) := by
  intro env P own A W ρ H s Q X QQ E hK hA S vs ht hQ hE
  refine wpAny_isTrue_Compare1 (SimE.two h1 h2 hK hA S vs ht (fun W' H' s' a b x y le S' vs' ra rb hg => ?_) hE) hm
  obtain ⟨q, hq, hg⟩ := hg.ex
  exact cmpop_sim S' ra rb hq (wpAny_truthy_bool (hQ W' H' s' _ le S' vs' hg))

/-! tests -/
noncomputable def ntK (Q : Bool → Hp → Prop) (b : Bool) (H : Hp) : Prop := Q (!b) H
noncomputable def tNot (t : BT) : BT := fun ρ H Q X => t ρ H (ntK Q) X
noncomputable def alK (k : BT) (ρ : Rho) (Q : Bool → Hp → Prop) (X : XP) (r : Bool) (H : Hp) : Prop := Br (k ρ H Q X) (Q false H) r
noncomputable def tAllC (t : BT) (_ : List BT) (k : BT) : BT := fun ρ H Q X => t ρ H (alK k ρ Q X) X
noncomputable def tConst (b : Bool) : BT := fun _ H Q _ => Q b H
noncomputable def tAll (ts : List BT) : BT := List.rec (tConst true) tAllC ts
noncomputable def anK (k : BT) (ρ : Rho) (Q : Bool → Hp → Prop) (X : XP) (r : Bool) (H : Hp) : Prop := Br (Q true H) (k ρ H Q X) r
noncomputable def tAnyC (t : BT) (_ : List BT) (k : BT) : BT := fun ρ H Q X => t ρ H (anK k ρ Q X) X
noncomputable def tAny (ts : List BT) : BT := List.rec (tConst false) tAnyC ts
/-- a value as a test: bools alone -/
noncomputable def tvK (Q : Bool → Hp → Prop) (v : V) (H : Hp) : Prop := gotB v (teK Q H)
noncomputable def tVal (t : ET) : BT := fun ρ H Q X => t ρ H (tvK Q) X

theorem simT_not {e : Expr} {pos : Pos} {t : BT} (h : SimT C d σ e t) : SimT C d σ (.UnaryOp .Not e pos) (tNot t) := by
  intro env P own A W ρ H s Q X QQ E hK hA S vs ht hQ hE
  exact isTrue_not (h env P own A W ρ H s _ X _ E hK hA S vs ht (fun W' H' s' b le S' vs' hq => hQ W' H' s' _ le S' vs' hq) hE)

inductive SimTs (C : Cx) (d : Nat) (σ : Sc) : List Expr → List BT → Prop
  | nil : SimTs C d σ [] []
  | cons {e : Expr} {t : BT} {es : List Expr} {ts : List BT} : SimT C d σ e t → SimTs C d σ es ts → SimTs C d σ (e :: es) (t :: ts)

theorem simT_and {es : List Expr} {pos : Pos} {ts : List BT} (h : SimTs C d σ es ts) : SimT C d σ (.BoolOp .And es pos) (tAll ts) := by
  induction h with
  | nil =>
    intro env P own A W ρ H s Q X QQ E hK hA S vs ht hQ hE
    exact isTrue_and_nil (hQ W H s _ (.refl W) S vs ht)
  | cons h1 _ ih =>
    intro env P own A W ρ H s Q X QQ E hK hA S vs ht hQ hE
    refine isTrue_and (h1 env P own A W ρ H s _ X _ E hK hA S vs ht (fun W' H' s' b le S' vs' hq => ?_) hE)
    cases b with
    | false => exact hQ W' H' s' _ le S' vs' (hq.f rfl)
    | true => exact ih env P own A W' ρ H' s' Q X QQ E hK hA S' vs' (hq.t rfl) (fun W₂ H₂ s₂ b le₂ => hQ W₂ H₂ s₂ b (le.trans le₂)) fun W₂ H₂ s₂ c e le₂ => hE W₂ H₂ s₂ c e (le.trans le₂)
theorem simT_or {es : List Expr} {pos : Pos} {ts : List BT} (h : SimTs C d σ es ts) : SimT C d σ (.BoolOp .Or es pos) (tAny ts) := by
  induction h with
  | nil =>
    intro env P own A W ρ H s Q X QQ E hK hA S vs ht hQ hE
    exact isTrue_or_nil (hQ W H s _ (.refl W) S vs ht)
  | cons h1 _ ih =>
    intro env P own A W ρ H s Q X QQ E hK hA S vs ht hQ hE
    refine isTrue_or (h1 env P own A W ρ H s _ X _ E hK hA S vs ht (fun W' H' s' b le S' vs' hq => ?_) hE)
    cases b with
    | true => exact hQ W' H' s' _ le S' vs' (hq.t rfl)
    | false => exact ih env P own A W' ρ H' s' Q X QQ E hK hA S' vs' (hq.f rfl) (fun W₂ H₂ s₂ b le₂ => hQ W₂ H₂ s₂ b (le.trans le₂)) fun W₂ H₂ s₂ c e le₂ => hE W₂ H₂ s₂ c e (le.trans le₂)

/-- isTrue asks the value alone -/
noncomputable def PlainT : Expr → Prop
  | .Call .. | .Name .. | .Subscript .. | .Attribute .. | .Constant .. => True
  | _ => False
theorem isTrue_ofPlain {e : Expr} {env : Env} {whole : Sem Value} (h : PlainT e) : isTrue e env whole = (do let v ← whole; standAt e.pos; holding [v] (truthy v)) := by
  cases e <;> first | rfl | exact h.elim
theorem simT_val {e : Expr} {t : ET} (h : SimE C d σ e t) (hp : PlainT e) : SimT C d σ e (tVal t) := by
  intro env P own A W ρ H s Q X QQ E hK hA S vs ht hQ hE
  refine isTrue_plain (h env P own A W ρ H s _ X _ E hK hA S vs ht (fun W' H' s' v x le S' vs' hr hq => ?_) hE) (isTrue_ofPlain hp)
  obtain ⟨b, rfl, hq⟩ := hq.ex
  cases hr
  exact wpAny_truthy_bool (hQ W' H' s' _ le S' vs' hq)

/-! tests as values -/
noncomputable def vnL (Q : V → Hp → Prop) (H : Hp) (b : Bool) : Prop := Q (.bool (!b)) H
noncomputable def vnK (Q : V → Hp → Prop) (v : V) (H : Hp) : Prop := gotB v (vnL Q H)
noncomputable def vNot (t : ET) : ET := fun ρ H Q X => t ρ H (vnK Q) X
noncomputable def vaL (k : ET) (ρ : Rho) (Q : V → Hp → Prop) (X : XP) (H : Hp) (b : Bool) : Prop := Br (k ρ H Q X) (Q (.bool false) H) b
noncomputable def vaK (k : ET) (ρ : Rho) (Q : V → Hp → Prop) (X : XP) (v : V) (H : Hp) : Prop := gotB v (vaL k ρ Q X H)
noncomputable def vAllC (t : ET) (ts : List ET) (k : ET) : ET := List.rec t (fun _ _ _ => fun ρ H Q X => t ρ H (vaK k ρ Q X) X) ts
noncomputable def vAll (ts : List ET) : ET := List.rec (fun _ _ _ _ => False) vAllC ts
theorem sim_not {e : Expr} {pos : Pos} {t : ET} (h : SimE C d σ e t) : SimE C d σ (.UnaryOp .Not e pos) (vNot t) := by
  intro env P own A W ρ H s Q X QQ E hK hA S vs ht hQ hE
  refine UnaryOp_ (h env P own A W ρ H s _ X _ E hK hA S vs ht (fun W' H' s' v x le S' vs' hr hq => ?_) hE)
  obtain ⟨b, rfl, hq⟩ := hq.ex
  cases hr
  exact not_of (wpAny_truthy_bool (hQ W' H' s' _ _ le S' vs' (.bool _) hq))

inductive SimEs (C : Cx) (d : Nat) (σ : Sc) : List Expr → List ET → Prop
  | nil : SimEs C d σ [] []
  | cons {e : Expr} {t : ET} {es : List Expr} {ts : List ET} : SimE C d σ e t → SimEs C d σ es ts → SimEs C d σ (e :: es) (t :: ts)

theorem sim_and {es : List Expr} {pos : Pos} {ts : List ET} (h : SimEs C d σ es ts) : SimE C d σ (.BoolOp .And es pos) (vAll ts) := by
  induction h with
  | nil => intro env P own A W ρ H s Q X QQ E hK hA S vs ht hQ hE; exact ht.elim
  | cons h1 h2 ih =>
    cases h2 with
    | nil =>
      intro env P own A W ρ H s Q X QQ E hK hA S vs ht hQ hE
      exact BoolOp_one (h1 env P own A W ρ H s Q X QQ E hK hA S vs ht hQ hE)
    | cons h2 h3 =>
      intro env P own A W ρ H s Q X QQ E hK hA S vs ht hQ hE
      refine BoolOp_and (h1 env P own A W ρ H s _ X _ E hK hA S vs ht (fun W' H' s' v x le S' vs' hr hq => ?_) hE)
      obtain ⟨b, rfl, hq⟩ := hq.ex
      cases hr
      refine wpAny_truthy_bool ?_
      cases b with
      | false => exact hQ W' H' s' _ _ le S' vs' (.bool _) (hq.f rfl)
      | true => exact ih env P own A W' ρ H' s' Q X QQ E hK hA S' vs' (hq.t rfl) (fun W₂ H₂ s₂ v x le₂ => hQ W₂ H₂ s₂ v x (le.trans le₂)) fun W₂ H₂ s₂ c e le₂ => hE W₂ H₂ s₂ c e (le.trans le₂)
end

end Mine
namespace Mine
open PySem PyProof.Rows PySem.SeqAt

section
variable {C : Cx} {d : Nat} {σ : Sc}

/-! several parts, in order -/
noncomputable def evB (Q : List V → Hp → Prop) (v : V) (vs : List V) (H : Hp) : Prop := Q (v :: vs) H
noncomputable def evA (k : EsT) (ρ : Rho) (Q : List V → Hp → Prop) (X : XP) (v : V) (H : Hp) : Prop := k ρ H (evB Q v) X
noncomputable def evsC (t : ET) (_ : List ET) (k : EsT) : EsT := fun ρ H Q X => t ρ H (evA k ρ Q X) X
noncomputable def evN : EsT := fun _ H Q _ => Q [] H
noncomputable def evs (ts : List ET) : EsT := List.rec evN evsC ts

/-- no star among them -/
noncomputable def noStar : List Expr → Bool
  | [] => true
  | .Starred .. :: _ => false
  | _ :: r => noStar r
theorem starEach_noStar {es : List Expr} {env : Env} (h : noStar es = true) : starEach es env = es.map fun e => (false, eval e env) := by
  induction es with
  | nil => rfl
  | cons e es ih =>
    cases e with
    | Starred e' p => cases h
    | _ => exact congrArg (_ :: ·) (ih h)
theorem backTo_plain {es : List Expr} {env : Env} {pos : Pos} (h : noStar es = true) : backTo pos (starEach es env) = es.map fun e => (false, eval e env) := by
  rw [starEach_noStar h]; simp [backTo]

theorem sim_evs {es : List Expr} {ts : List ET} (h : SimEs C d σ es ts) :
    ∀ (env : Env) (P : Fz) (own : List Addr) (A : Around) (W : Wd) (ρ : Rho) (H : Hp) (s : Shared) (Q : List V → Hp → Prop) (X : XP) (QQ : List Value → Shared → Prop) (E : Value → Shared → Prop),
    EnvOK σ own env → AOK d A P own → St C P own W H s → Vs C P own σ env W ρ s.heap → evs ts ρ H Q X →
    (∀ W' H' s' v x, W.Le W' → St C P own W' H' s' → Vs C P own σ env W' ρ s'.heap → RepL C W' v x → x.length = es.length → Q v H' → QQ x s') →
    (∀ W' H' s' c e, W.Le W' → St C P own W' H' s' → Vs C P own σ env W' ρ s'.heap → Fly C P own W' c e s' → X c H' → E e s') →
    wpAny (model C.prog C.w) A (spliced (es.map fun e => (false, eval e env))) QQ E s := by
  induction h with
  | nil =>
    intro env P own A W ρ H s Q X QQ E hK hA S vs ht hQ hE
    exact Calls.spliced_nil (hQ W H s _ _ (.refl W) S vs .nil rfl ht)
  | cons h1 h2 ih =>
    intro env P own A W ρ H s Q X QQ E hK hA S vs ht hQ hE
    refine Calls.spliced_cons (h1 env P own A W ρ H s _ X _ E hK hA S vs ht (fun W₁ H₁ s₁ v x le₁ S₁ vs₁ r₁ q₁ => ?_) hE)
    refine ih env P own A W₁ ρ H₁ s₁ _ X _ E hK hA S₁ vs₁ q₁ (fun W₂ H₂ s₂ v' x' le₂ S₂ vs₂ r₂ l₂ q₂ => ?_) fun W₂ H₂ s₂ c e le₂ => hE W₂ H₂ s₂ c e (le₁.trans le₂)
    exact hQ W₂ H₂ s₂ _ _ (le₁.trans le₂) S₂ vs₂ (.cons (r₁.mono le₂) r₂) (by simp [l₂]) q₂

noncomputable def tuK (Q : V → Hp → Prop) (vs : List V) (H : Hp) : Prop := Q (.tup vs) H
noncomputable def liK (Q : V → Hp → Prop) (vs : List V) (H : Hp) : Prop := Q (.lst vs) H
noncomputable def mkT (ts : List ET) : ET := fun ρ H Q X => evs ts ρ H (tuK Q) X
noncomputable def mkL (ts : List ET) : ET := fun ρ H Q X => evs ts ρ H (liK Q) X
theorem sizeOk_seq {x : List Value} (h : x.length ≤ 1000) : x.toArray.size ≤ sizeLine := by
  rw [List.size_toArray]; exact Nat.le_trans h (by decide)

theorem sim_tup {es : List Expr} {ts : List ET} {k : Nat} {pos : Pos} (h : SimEs C d σ es ts) (hs : noStar es = true) (hl : es.length ≤ 1000) : SimE C d σ (.Tuple es k pos) (mkT ts) := by
  intro env P own A W ρ H s Q X QQ E hK hA S vs ht hQ hE
  refine Tuple_ ?_
  rw [backTo_plain hs]
  refine sim_evs h env P own A W ρ H s _ X _ E hK hA S vs ht (fun W' H' s' v x le S' vs' r l q => ?_) hE
  obtain ⟨le', S''⟩ := S'.pushF { cls := .type "tuple", data := .seq x.toArray } rfl
  exact wpAny_newObj_type (hQ _ H' _ _ _ (le.trans le') S'' ((vs'.keeps (Heap.push_keeps _)).mono le') (.tup (Wd.addF_at ..) rfl rfl (by simpa using r.mono le')) q) (sizeOk_seq (by (first | lia | omega)))
theorem sim_lst {es : List Expr} {ts : List ET} {pos : Pos} (h : SimEs C d σ es ts) (hs : noStar es = true) (hl : es.length ≤ 1000) : SimE C d σ (.List es pos) (mkL ts) := by
  intro env P own A W ρ H s Q X QQ E hK hA S vs ht hQ hE
  refine List_ ?_
  rw [backTo_plain hs]
  refine sim_evs h env P own A W ρ H s _ X _ E hK hA S vs ht (fun W' H' s' v x le S' vs' r l q => ?_) hE
  obtain ⟨le', S''⟩ := S'.pushF { cls := .type "list", data := .seq x.toArray } rfl
  exact wpAny_newObj_type (hQ _ H' _ _ _ (le.trans le') S'' ((vs'.keeps (Heap.push_keeps _)).mono le') (.lst (Wd.addF_at ..) rfl rfl (by simpa using r.mono le')) q) (sizeOk_seq (by (first | lia | omega)))
/-! an item -/
noncomputable def pick (xs : List V) (i : Int) : Option V := if 0 ≤ i then (if xs.length ≤ 4611686018427387904 then xs[i.toNat]? else none) else if i = -1 then xs.getLast? else none
noncomputable def sign (x : Str) (i : Int) : Option V := if 0 ≤ i ∧ x.cps.size ≤ 4611686018427387904 then (x.cps[i.toNat]?).map fun c => .str ⟨#[c]⟩ else none
noncomputable def dlook (kvs : List (Str × V)) (k : Str) : Option V := (kvs.find? fun kv => kv.1 = k).map (·.2)
/-- the dict that a cell of the small heap holds -/
noncomputable def cellD : Option MO → Option (List (Str × V))
  | some (.dct kvs) => some kvs
  | _ => none
theorem cellD_eq {o : Option MO} {kvs : List (Str × V)} (h : cellD o = some kvs) : o = some (.dct kvs) := by
  cases o with
  | none => cases h
  | some m => cases m <;> first | (cases h; rfl) | cases h
noncomputable def asD : V → Hp → Option (List (Str × V))
  | .dct kvs, _ => some kvs
  | .ref n, H => cellD H[n]?
  | _, _ => none
noncomputable def itemI : V → Int → Hp → Option V
  | .tup xs, i, _ => pick xs i
  | .str x, i, _ => sign x i
  | v, i, H => (asL v H).bind (pick · i)
noncomputable def item (a : V) : V → Hp → Option V
  | .int i, H => itemI a i H
  | .str k, H => (asD a H).bind (dlook · k)
  | _, _ => none
noncomputable def ixB (Q : V → Hp → Prop) (x y : V) (H : Hp) : Prop := got (item x y H) (nmK Q H)
noncomputable def ixA (b : ET) (ρ : Rho) (Q : V → Hp → Prop) (X : XP) (x : V) (H : Hp) : Prop := b ρ H (ixB Q x) X
noncomputable def idx (a b : ET) : ET := fun ρ H Q X => a ρ H (ixA b ρ Q X) X
end

section
variable {C : Cx} {P : Fz} {own : List Addr} {W : Wd} {H : Hp} {s : Shared} {A : Around}
theorem asD_spec {v : V} {x : Value} {kvs : List (Str × V)} (r : Rep C W v x) (S : St C P own W H s) (h : asD v H = some kvs) : ∃ a kvs', x = .ref a ∧ s.heap.DictOf (strKind C.prog C.w) a kvs' ∧ RepKV C W kvs kvs' := by
  cases r with
  | dct h1 h2 _ h3 => cases h; exact ⟨_, _, rfl, Heap.dictOf_iff.mpr ⟨_, S.fin _ _ h1, h2⟩, h3⟩
  | @ref n a hφ =>
    obtain ⟨a', o, h1, _, h3, kvs', hd, hl⟩ := S.hp.at_ n _ (cellD_eq h) (by intro q; cases q)
    rw [hφ] at h1; cases h1
    exact ⟨_, _, rfl, Heap.dictOf_iff.mpr ⟨_, h3, hd⟩, hl⟩
  | _ => cases h
theorem RepKV.look {kvs : List (Str × V)} {kvs' : List (Str × Value)} (h : RepKV C W kvs kvs') {k : Str} {v : V} (hv : dlook kvs k = some v) : ∃ x, valueAt kvs' k = some x ∧ Rep C W v x := by
  induction kvs generalizing kvs' with
  | nil => cases hv
  | cons a r ih =>
    obtain ⟨x, ys, rfl, r1, r2⟩ := h.inv
    unfold dlook at hv
    unfold valueAt
    rw [List.find?_cons] at hv ⊢
    by_cases q : a.1 = k
    · simp only [q, decide_true, Option.map_some, Option.some.injEq] at hv ⊢
      subst hv; exact ⟨_, rfl, r1⟩
    · simp only [q, decide_false] at hv ⊢
      exact ih r2 hv

theorem pick_spec {xs : List V} {l : List Value} {i : Int} {v : V} (h : RepL C W xs l) (hp : pick xs i = some v) : -(2 ^ 63) ≤ i ∧ i < 2 ^ 63 ∧ ∃ j x, seqIndex? i l.length = some j ∧ l[j]? = some x ∧ Rep C W v x ∧
    ((0 ≤ i ∧ j = i.toNat) ∨ (i < 0 ∧ -(l.length : Int) ≤ i ∧ j = (i + l.length).toNat)) := by
  unfold pick at hp
  have e := h.length
  split at hp
  · rename_i h0
    split at hp
    · rename_i h1
      obtain ⟨x, hx, hr⟩ := h.get hp
      have hlt : i.toNat < l.length := (List.getElem?_eq_some_iff.mp hx).1
      refine ⟨by (first | lia | omega), by (first | lia | omega), i.toNat, x, ?_, hx, hr, .inl ⟨h0, rfl⟩⟩
      unfold seqIndex?
      simp only [show ¬ i < 0 by (first | lia | omega), if_false]
      rw [if_pos (by simp only [Bool.and_eq_true, decide_eq_true_eq]; (first | lia | omega))]
    · cases hp
  · rename_i h0
    split at hp
    · rename_i h1
      subst h1
      have hpos : 0 < xs.length := by
        cases xs with
        | nil => cases hp
        | cons => simp
      have hg : xs[xs.length - 1]? = some v := by rw [← List.getLast?_eq_getElem?]; exact hp
      obtain ⟨x, hx, hr⟩ := h.get hg
      refine ⟨by decide, by decide, xs.length - 1, x, ?_, hx, hr, .inr ⟨by decide, by (first | lia | omega), by (first | lia | omega)⟩⟩
      rw [seqIndex_neg (by decide) (by (first | lia | omega))]
      congr 1; (first | lia | omega)
    · cases hp

theorem subscripted_ops (slice : Expr) (o i : Value) : ∃ ops, subscripted slice false o i = operate ops (getItem o i) := by
  cases slice with
  | Slice a b c p => cases c with
    | none => exact ⟨[i, o], rfl⟩
    | some c => exact ⟨[o, i], rfl⟩
  | _ => exact ⟨[o, i], rfl⟩

theorem item_list {value slice : Expr} {a v : V} {i : Int} {tk : Tok} {x : Value} {QQ : Value → Shared → Prop} {E : Value → Shared → Prop} (S : St C P own W H s) (ra : Rep C W a x) (ht : (asL a H).bind (pick · i) = some v)
    (hQ : ∀ z t, Rep C W v z → QQ z { s with toks := t }) : wpAny (model C.prog C.w) A (subscriptTail value slice x (.int i tk)) QQ E s := by
  obtain ⟨xs, hxs, hp⟩ := Option.bind_eq_some_iff.mp ht
  obtain ⟨t, l, rfl, h1, h2⟩ := asL_spec ra S hxs
  obtain ⟨b1, b2, j, z, hj, hz, hr, hc⟩ := pick_spec h2 hp
  obtain ⟨ops, ho⟩ := subscripted_ops slice (.ref t) (.int _ _)
  refine tail_any h1.typeIs slot_list_getitem.lookup ?_ ho
  rcases hc with ⟨h0, rfl⟩ | ⟨h0, h3, rfl⟩
  · exact wpAny_getItem_list h1 h0 b2 (by simpa using hz) (hQ z s.toks hr)
  · exact wpAny_getItem_list_neg h1 h0 (by simpa using h3) b1 (by simpa using hz) (hQ z s.toks hr)
theorem item_sign {value slice : Expr} {x : Str} {v : V} {i : Int} {tk tk' : Tok} {QQ : Value → Shared → Prop} {E : Value → Shared → Prop} (ht : sign x i = some v)
    (hQ : ∀ z t, Rep C W v z → QQ z { s with toks := t }) : wpAny (model C.prog C.w) A (subscriptTail value slice (.str x tk') (.int i tk)) QQ E s := by
  unfold sign at ht
  split at ht
  · rename_i hb
    obtain ⟨c, hc, rfl⟩ := Option.map_eq_some_iff.mp ht
    have hlt : i.toNat < x.cps.size := by
      rcases Nat.lt_or_ge i.toNat x.cps.size with q | q
      · exact q
      · rw [Array.getElem?_eq_none q] at hc; cases hc
    obtain ⟨ops, ho⟩ := subscripted_ops slice (.str x tk') (.int i tk)
    refine tail_any (typeIs_str s x _) F.slot_str_getitem.lookup (PySem.P.getItem_str (c := c) ?_ ?_ (hQ _ _ (.str ..))) ho
    · simp only [Bool.or_eq_false_iff, decide_eq_false_iff_not]; (first | lia | omega)
    · unfold seqIndex?
      simp only [show ¬ i < 0 by (first | lia | omega), if_false, Str.length]
      rw [if_pos (by simp only [Bool.and_eq_true, decide_eq_true_eq]; (first | lia | omega))]
      exact hc
  · cases ht
theorem item_sim {value slice : Expr} {a b v : V} {x y : Value} {QQ : Value → Shared → Prop} {E : Value → Shared → Prop} (S : St C P own W H s) (ra : Rep C W a x) (rb : Rep C W b y) (ht : item a b H = some v)
    (hQ : ∀ z t, Rep C W v z → QQ z { s with toks := t }) : wpAny (model C.prog C.w) A (subscriptTail value slice x y) QQ E s := by
  cases rb with
  | int i tk =>
    cases a with
    | tup xs =>
      obtain ⟨t, l, rfl, h1, h2⟩ := ra.isTup S
      obtain ⟨b1, b2, j, z, hj, hz, hr, _⟩ := pick_spec h2 ht
      obtain ⟨ops, ho⟩ := subscripted_ops slice (.ref t) (.int _ _)
      exact tail_any h1.typeIs slot_tuple_getitem.lookup (getItem_tuple h1 b1 b2 (by simpa using hj) (by simpa using hz) (hQ z s.toks hr)) ho
    | str x => cases ra; exact item_sign ht hQ
    | _ => exact item_list S ra ht hQ
  | str k tk =>
    obtain ⟨kvs, hk, hv⟩ := Option.bind_eq_some_iff.mp ht
    obtain ⟨t, kvs', rfl, h1, h2⟩ := asD_spec ra S hk
    obtain ⟨z, hz, hr⟩ := h2.look hv
    obtain ⟨ops, ho⟩ := subscripted_ops slice (.ref t) (.str _ _)
    exact tail_any h1.typeIs slot_dict_getitem.lookup (wpAny_getItem_of (strKind_is _ _ _ _) h1.mapOf hz (hQ z _ hr)) ho
  | _ => cases ht
end

section
variable {C : Cx} {d : Nat} {σ : Sc}
theorem sim_idx {e i : Expr} {pos : Pos} {te ti : ET} (h1 : SimE C d σ e te) (h2 : SimE C d σ i ti) : SimE C d σ (.Subscript e i pos) (idx te ti) := by
  intro env P own A W ρ H s Q X QQ E hK hA S vs ht hQ hE
  refine Subscript_ (SimE.two h1 h2 hK hA S vs ht (fun W' H' s' a b x y le S' vs' ra rb hg => ?_) hE)
  obtain ⟨v, hv, hg⟩ := got.ex hg
  exact item_sim S' ra rb hv fun z t hr => hQ W' H' _ v z le (S'.tok t) vs' hr hg
end
end Mine
namespace Mine
open PySem PyProof.Rows PySem.SeqAt

/-! slices -/
noncomputable def pySl {α : Type} (xs : List α) (lo hi : Option Int) : List α := (xs.drop (lo.elim 0 (clipAt xs.length))).take (hi.elim xs.length (clipAt xs.length) - lo.elim 0 (clipAt xs.length))
theorem RepL.sl {C : Cx} {W : Wd} {vs : List V} {xs : List Value} (h : RepL C W vs xs) (lo hi : Option Int) : RepL C W (pySl vs lo hi) (pySl xs lo hi) := by
  unfold pySl; rw [h.length]; exact (h.drop _).take _
theorem pySl_le {α : Type} (xs : List α) (lo hi : Option Int) : (pySl xs lo hi).length ≤ xs.length := by
  unfold pySl; rw [List.length_take, List.length_drop]; (first | lia | omega)
theorem clip_hi_le (n : Nat) (hi : Option Int) : hi.elim n (clipAt n) ≤ n := by
  cases hi with
  | none => exact Nat.le_refl _
  | some i => simp only [Option.elim, clipAt]; (first | lia | omega)
theorem clip_lo_le (n : Nat) (lo : Option Int) : lo.elim 0 (clipAt n) ≤ n := by
  cases lo with
  | none => exact Nat.zero_le _
  | some i => simp only [Option.elim, clipAt]; (first | lia | omega)

theorem strSlice_eq (x : Str) (lo hi : Option Int) : (Builtin.Str.strSliceIndices lo hi 1 x.length).filterMap (x.cps[·]?) = pySl x.cps.toList lo hi := by
  have e : Builtin.Str.strSliceIndices lo hi 1 x.length = sliceRange ((lo.elim 0 (clipAt x.length) : Nat) : Int) ((hi.elim x.length (clipAt x.length) : Nat) : Int) 1 := by
    unfold Builtin.Str.strSliceIndices
    cases lo <;> cases hi <;> simp [clipAt_cast]
  rw [e, sliceRange_one]
  unfold pySl
  rw [Array.length_toList]
  show _ = (x.cps.toList.drop (lo.elim 0 (clipAt x.length))).take (hi.elim x.length (clipAt x.length) - lo.elim 0 (clipAt x.length))
  have hb := clip_hi_le x.length hi
  generalize lo.elim 0 (clipAt x.length) = a
  generalize hi.elim x.length (clipAt x.length) = b at hb
  rcases Nat.le_total a b with q | q
  · have := StrLaws.picks x.cps.toList (b - a) a (by simp [Str.length] at hb ⊢; (first | lia | omega))
    simpa using this
  · simp [Nat.sub_eq_zero_of_le q]

section
variable {prog : Program} {w : World} {A : Around} {E : Value → Shared → Prop} {s : Shared}
theorem slicePart_of {v : Value} {o : Option Int} (p : IsPart v o) {Q : Option Int → Shared → Prop} (h : Q o s) : wpAny (model prog w) A (Builtin.Slice.slicePartIndex v) Q E s := by
  cases p with
  | none => exact slicePart_none h
  | int => exact slicePart_int h
theorem adjust_clip (lo hi : Option Int) (n : Nat) : Builtin.Slice.sliceAdjust lo hi 1 (n : Int) = (((lo.elim 0 (clipAt n) : Nat) : Int), ((hi.elim n (clipAt n) : Nat) : Int)) := by
  unfold Builtin.Slice.sliceAdjust
  have h1 : ¬ ((1 : Int) < 0) := by (first | lia | omega)
  simp only [h1, if_false]
  congr 1
  · cases lo with
    | none => rfl
    | some i => simp only [Option.elim, clipAt_cast]; split <;> (first | lia | omega)
  · cases hi with
    | none => rfl
    | some i => simp only [Option.elim, clipAt_cast]; split <;> (first | lia | omega)
theorem places_clip (a b : Nat) : Builtin.Slice.slicePlaces (a : Int) (b : Int) 1 = b - a := by
  unfold Builtin.Slice.slicePlaces
  have h1 : (1 : Int) > 0 := by (first | lia | omega)
  simp only [h1, if_true, Int.ediv_one]
  split <;> (first | lia | omega)
theorem sliceApplied_clip {sl : Addr} {n : Nat} {vl vu : Value} {lo hi : Option Int} {Q : Int × Int × Nat → Shared → Prop} (hs : s.heap.IsSliceOf sl vl vu .none) (pl : IsPart vl lo) (pu : IsPart vu hi)
    (h : Q (((lo.elim 0 (clipAt n) : Nat) : Int), 1, hi.elim n (clipAt n) - lo.elim 0 (clipAt n)) s) :
    wpAny (model prog w) A (Builtin.Slice.sliceApplied (.ref sl) (pure (n : Int))) Q E s := by
  obtain ⟨os, hos, hcs, hds⟩ := id hs
  unfold Builtin.Slice.sliceApplied Builtin.Slice.sliceFields
  refine wpAny_bind (wpAny_bind (wpAny_field hos hds (x := vl) rfl (wpAny_bind (wpAny_field hos hds (x := vu) rfl (wpAny_bind (wpAny_field hos hds (x := .none) rfl (wpAny_pure ?_)))))))
  refine wpAny_bind (slicePart_none ?_)
  show wpAny _ _ (if ((1 : Int) == 0) = true then _ else _) _ _ s
  rw [if_neg (by decide)]
  refine wpAny_bind (slicePart_of pl (wpAny_bind (slicePart_of pu (wpAny_bind (wpAny_pure ?_)))))
  show wpAny _ _ (match Builtin.Slice.sliceAdjust lo hi 1 (n : Int) with | (lo, hi) => pure (lo, (1 : Int), Builtin.Slice.slicePlaces lo hi 1)) _ _ s
  rw [adjust_clip]
  show wpAny _ _ (pure (((lo.elim 0 (clipAt n) : Nat) : Int), (1 : Int), Builtin.Slice.slicePlaces _ _ 1)) _ _ s
  rw [places_clip]
  exact wpAny_pure h
theorem pick_clip (xs : Array Value) (a b : Nat) (hb : b ≤ xs.size) : ((List.range (b - a)).filterMap fun (k : Nat) => xs[((a : Int) + (k : Int) * 1).toNat]?).toArray = ((xs.toList.drop a).take (b - a)).toArray := by
  have e : (fun (k : Nat) => xs[((a : Int) + (k : Int) * 1).toNat]?) = fun k => xs[a + k]? := by
    funext k
    have : ((a : Int) + (k : Int) * 1).toNat = a + k := by (first | lia | omega)
    rw [this]
  rw [e]
  rcases Nat.le_total a b with q | q
  · have h := StrLaws.picks xs.toList (b - a) a (by simp; (first | lia | omega))
    rw [List.filterMap_map] at h
    rw [← h]
    simp [Function.comp_def]
  · simp [Nat.sub_eq_zero_of_le q]

theorem getTupSlice {t sl : Addr} {items : Array Value} {vl vu : Value} {lo hi : Option Int} {Q : Value → Shared → Prop} (ht : IsTup s.heap t items) (hs : s.heap.IsSliceOf sl vl vu .none) (pl : IsPart vl lo) (pu : IsPart vu hi)
    (h1 : pySl items.toList lo hi = items.toList → Q (.ref t) s)
    (h2 : Q (.ref s.heap.objs.size) { s with heap := s.heap.push { cls := .type "tuple", data := .seq (pySl items.toList lo hi).toArray } })
    (hsz : items.size ≤ sizeLine) : wpAny (model prog w) A (getItem (.ref t) (.ref sl)) Q E s := by
  obtain ⟨os, hos, hcs, hds⟩ := id hs
  have hTs : s.TypeIs (.ref sl) "slice" := ⟨os, hos, hcs⟩
  have e : pySl items.toList lo hi = (items.toList.drop (lo.elim 0 (clipAt items.size))).take (hi.elim items.size (clipAt items.size) - lo.elim 0 (clipAt items.size)) := by
    unfold pySl; rw [Array.length_toList]
  have hok : sizeOk (.seq (pySl items.toList lo hi).toArray) := by
    show (pySl items.toList lo hi).toArray.size ≤ sizeLine
    rw [List.size_toArray]
    have := pySl_le items.toList lo hi
    have e2 : items.toList.length = items.size := Array.length_toList
    (first | lia | omega)
  unfold getItem
  try with_reducible refine wpAny_holding ?_
  first | refine wpAny_bind (wpAny_pure ?_) | skip
  refine wpAny_bind (wpAny_sequenceKey ht.typeIs (by decide) ?_)
  refine wpAny_bind (wpAny_callSpecial?_slot (name := Str.ofString "__getitem__") ht.typeIs slot_tuple_getitem
    (wpAny_call_entry slot_tuple_getitem ht.typeIs entry_tuple_getitem ?_ (args_tuple_getitem _ _)))
  show wpAny _ _ (Builtin.Tuple.tupleItemsOf (.ref t) >>= _) _ _ s
  refine wpAny_bind (tupleItemsOf_ ht ?_)
  refine wpAny_bind (wpAny_typeOf hTs ?_)
  rw [if_pos (by decide)]
  refine wpAny_bind (sliceApplied_clip hs pl pu ?_)
  have hb := clip_hi_le items.size hi
  have hlo := clip_lo_le items.size lo
  have hpick := pick_clip items (lo.elim 0 (clipAt items.size)) (hi.elim items.size (clipAt items.size)) hb
  rw [← e] at hpick
  show wpAny _ _ (if (((lo.elim 0 (clipAt items.size) : Nat) : Int) == 0 && (1 : Int) == 1 && (hi.elim items.size (clipAt items.size) - lo.elim 0 (clipAt items.size)) == items.size) = true then _ else _) _ _ s
  refine wpAny_ite ?_
  split
  · rename_i hc
    simp only [Bool.and_eq_true, beq_iff_eq] at hc
    have hw : pySl items.toList lo hi = items.toList := by
      rw [e]
      have h0 : lo.elim 0 (clipAt items.size) = 0 := by (first | lia | omega)
      rw [h0] at hc ⊢
      rw [hc.2, List.drop_zero, List.take_of_length_le (by simp)]
    first
      | exact wpAny_bind (m := Builtin.Tuple.tupleIsExact (.ref t)) (wpAny_bind (wpAny_typeOf ht.typeIs (wpAny_pure (wpAny_bind (wpAny_rule (wpAny_bind (wpAny_pure (wpAny_pure ⟨_, rfl, wpAny_pure (h1 hw)⟩))))))))
      | exact wpAny_bind (m := Builtin.Tuple.tupleIsExact (.ref t)) (wpAny_bind (wpAny_typeOf ht.typeIs (wpAny_pure (wpAny_bind (wpAny_rule (wpAny_pure ⟨_, rfl, wpAny_pure (h1 hw)⟩))))))
  · rw [hpick]
    first
      | exact wpAny_bind (m := Builtin.Tuple.tupleExact _) (wpAny_newObj_type (wpAny_pure ⟨_, rfl, wpAny_pure h2⟩) hok)
      | exact wpAny_bind (m := Builtin.Tuple.tupleExact _) (wpAny_newObj_type (wpAny_bind (wpAny_pure (wpAny_pure ⟨_, rfl, wpAny_pure h2⟩))) hok)
      | exact wpAny_bind (wpAny_bind (m := Builtin.Tuple.tupleExact _) (wpAny_newObj_type (wpAny_pure (wpAny_pure ⟨_, rfl, wpAny_pure h2⟩)) hok))
end

noncomputable def oeL (Q : Option Int → Hp → Prop) (H : Hp) (i : Int) : Prop := Q (some i) H
noncomputable def oeK (Q : Option Int → Hp → Prop) (v : V) (H : Hp) : Prop := gotI v (oeL Q H)
noncomputable def optE : Option ET → Rho → Hp → (Option Int → Hp → Prop) → XP → Prop
  | none => fun _ H Q _ => Q none H
  | some t => fun ρ H Q X => t ρ H (oeK Q) X
noncomputable def slice : V → Option Int → Option Int → Hp → Option V
  | .tup xs, lo, hi, _ => if xs.length ≤ sizeLine then some (.tup (pySl xs lo hi)) else none
  | .str x, lo, hi, _ => if x.length ≤ sizeLine then some (.str ⟨(pySl x.cps.toList lo hi).toArray⟩) else none
  | v, lo, hi, H => (asL v H).bind fun xs => if xs.length ≤ sizeLine then some (.lst (pySl xs lo hi)) else none
noncomputable def slK (Q : V → Hp → Prop) (x : V) (l u : Option Int) (H : Hp) : Prop := got (slice x l u H) (nmK Q H)
noncomputable def slB (hi : Option ET) (ρ : Rho) (Q : V → Hp → Prop) (X : XP) (x : V) (l : Option Int) (H : Hp) : Prop := optE hi ρ H (slK Q x l) X
noncomputable def slA (lo hi : Option ET) (ρ : Rho) (Q : V → Hp → Prop) (X : XP) (x : V) (H : Hp) : Prop := optE lo ρ H (slB hi ρ Q X x) X
noncomputable def slc (a : ET) (lo hi : Option ET) : ET := fun ρ H Q X => a ρ H (slA lo hi ρ Q X) X

inductive SimO (C : Cx) (d : Nat) (σ : Sc) : Option Expr → Option ET → Prop
  | none : SimO C d σ none none
  | some {e : Expr} {t : ET} : SimE C d σ e t → SimO C d σ (some e) (some t)

section
variable {C : Cx} {d : Nat} {σ : Sc}
theorem SimO.sim {e : Option Expr} {t : Option ET} (h : SimO C d σ e t) {env : Env} {P : Fz} {own : List Addr} {A : Around} {W : Wd} {ρ : Rho} {H : Hp} {s : Shared} {Q : Option Int → Hp → Prop} {X : XP} {QQ : Value → Shared → Prop} {E : Value → Shared → Prop}
    (hK : EnvOK σ own env) (hA : AOK d A P own) (S : St C P own W H s) (vs : Vs C P own σ env W ρ s.heap) (ht : optE t ρ H Q X)
    (hQ : ∀ W' H' s' o x, W.Le W' → St C P own W' H' s' → Vs C P own σ env W' ρ s'.heap → IsPart x o → Q o H' → QQ x s')
    (hE : ∀ W' H' s' c e, W.Le W' → St C P own W' H' s' → Vs C P own σ env W' ρ s'.heap → Fly C P own W' c e s' → X c H' → E e s') :
    wpAny (model C.prog C.w) A (evalPart e env) QQ E s := by
  cases h with
  | none => exact wpAny_pure (hQ W H s _ _ (.refl W) S vs .none ht)
  | some h =>
    rw [evalPart_some]
    refine h env P own A W ρ H s _ X _ E hK hA S vs ht (fun W' H' s' v x le S' vs' hr hq => ?_) hE
    obtain ⟨i, rfl, hq⟩ := gotI.ex hq
    cases hr
    exact hQ W' H' s' _ _ le S' vs' (.int ..) hq

theorem IsPart.partValue {v : Value} {o : Option Int} (p : IsPart v o) : ∃ q : Option (Int × Tok), v = PySem.partValue q ∧ q.map (·.1) = o := by
  cases p with
  | none => exact ⟨none, rfl, rfl⟩
  | int i t => exact ⟨some (i, t), rfl, rfl⟩

theorem slice_sim {P : Fz} {own : List Addr} {W : Wd} {H : Hp} {s : Shared} {A : Around} {env : Env} {ρ : Rho} {value slc : Expr} {a v : V} {x : Value} {sl : Addr} {vl vu : Value} {lo hi : Option Int} {QQ : Value → Shared → Prop} {E : Value → Shared → Prop}
    (S : St C P own W H s) (vs : Vs C P own σ env W ρ s.heap) (ra : Rep C W a x) (hs : s.heap.IsSliceOf sl vl vu .none) (pl : IsPart vl lo) (pu : IsPart vu hi) (ht : slice a lo hi H = some v)
    (hQ : ∀ W' s' z, W.Le W' → St C P own W' H s' → Vs C P own σ env W' ρ s'.heap → Rep C W' v z → QQ z s') : wpAny (model C.prog C.w) A (subscriptTail value slc x (.ref sl)) QQ E s := by
  unfold slice at ht
  split at ht
  · split at ht
    · rename_i xs _ _ hsz
      cases ht
      obtain ⟨t, l, rfl, h1, h2⟩ := ra.isTup S
      obtain ⟨ops, ho⟩ := subscripted_ops slc (.ref t) (.ref sl)
      have hl := h2.length
      refine tail_any h1.typeIs slot_tuple_getitem.lookup (getTupSlice h1 hs pl pu (fun e => ?_) ?_ (by simpa using (by (first | lia | omega) : l.length ≤ sizeLine))) ho
      · have e' : pySl l lo hi = l := by simpa using e
        refine hQ W s _ (.refl W) S vs ?_
        have hr := h2.sl lo hi
        rw [e'] at hr
        cases ra with
        | tup g1 g2 g3 g4 =>
          obtain ⟨o', ho', hc', n', hd'⟩ := h1
          rw [S.fin _ _ g1] at ho'
          cases ho'
          rw [hd'] at g3
          cases g3
          exact .tup g1 hc' hd' (by simpa using hr)
      · obtain ⟨le, S'⟩ := S.pushF { cls := .type "tuple", data := .seq (pySl l lo hi).toArray } rfl
        have := hQ _ _ _ le S' ((vs.keeps (Heap.push_keeps _)).mono le) (.tup (Wd.addF_at ..) rfl rfl (by simpa using (h2.sl lo hi).mono le))
        simpa using this
    · cases ht
  · split at ht
    · rename_i x hsz
      cases ht
      cases ra
      rename_i tk
      obtain ⟨ops, ho⟩ := subscripted_ops slc (.str x tk) (.ref sl)
      obtain ⟨ql, rfl, hql⟩ := IsPart.partValue pl
      obtain ⟨qu, rfl, hqu⟩ := IsPart.partValue pu
      refine tail_any (typeIs_str s x _) F.slot_str_getitem.lookup (wpAny_getItem_str_slice (l := ql) (u := qu) (st := none) hs rfl ?_) ho
      have e : (slicePicked x ql qu none).filterMap (x.cps[·]?) = pySl x.cps.toList lo hi := by
        unfold slicePicked; rw [hql, hqu]; exact strSlice_eq x lo hi
      unfold sliceMade
      split
      · rename_i hc
        have hlen : (slicePicked x ql qu none).length = x.length := by
          simp only [Bool.and_eq_true, beq_iff_eq] at hc; exact hc.2
        have : (⟨(pySl x.cps.toList lo hi).toArray⟩ : Str) = x := by
          have hp : (pySl x.cps.toList lo hi).length = x.cps.size := by
            rw [← e]
            unfold slicePicked
            rw [hql, hqu]
            show ((Builtin.Str.strSliceIndices lo hi 1 x.length).filterMap (x.cps[·]?)).length = _
            rw [strSlice_eq]
            have hb := clip_hi_le x.length hi
            have hl' : (Builtin.Str.strSliceIndices lo hi 1 x.length).length = x.length := by
              unfold slicePicked at hlen
              rw [hql, hqu] at hlen
              exact hlen
            have e2 : Builtin.Str.strSliceIndices lo hi 1 x.length = sliceRange ((lo.elim 0 (clipAt x.length) : Nat) : Int) ((hi.elim x.length (clipAt x.length) : Nat) : Int) 1 := by
              unfold Builtin.Str.strSliceIndices
              cases lo <;> cases hi <;> simp [clipAt_cast]
            rw [e2, sliceRange_one] at hl'
            simp only [List.length_map, List.length_range] at hl'
            unfold pySl
            rw [List.length_take, List.length_drop, Array.length_toList]
            have : x.cps.size = x.length := rfl
            rw [this]
            (first | lia | omega)
          have hw : pySl x.cps.toList lo hi = x.cps.toList := by
            have hsub : (pySl x.cps.toList lo hi).Sublist x.cps.toList := (List.take_sublist _ _).trans (List.drop_sublist _ _)
            exact hsub.eq_of_length (by rw [hp, Array.length_toList])
          rw [hw]
        rw [this] at hQ
        exact hQ W s _ (.refl W) S vs (.str ..)
      · rw [e]
        refine ⟨?_, hQ W _ _ (.refl W) (S.tok _) vs (.str ..)⟩
        show (pySl x.cps.toList lo hi).toArray.size ≤ sizeLine
        rw [List.size_toArray]
        have h5 := pySl_le x.cps.toList lo hi
        have e2 : x.cps.toList.length = x.cps.size := Array.length_toList
        have h6 : x.cps.size = x.length := rfl
        (first | lia | omega)
    · cases ht
  · simp only [Option.bind_eq_some_iff] at ht
    obtain ⟨xs, hxs, ht⟩ := ht
    split at ht
    · rename_i hsz
      cases ht
      obtain ⟨t, l, rfl, h1, h2⟩ := asL_spec ra S hxs
      obtain ⟨ops, ho⟩ := subscripted_ops slc (.ref t) (.ref sl)
      have hl := h2.length
      refine tail_any h1.typeIs slot_list_getitem.lookup (wpAny_getItem_list_slice h1 hs pl pu .none nofun ?_ (by simpa using (by (first | lia | omega) : l.length ≤ sizeLine))) ho
      rw [slicePick_plain]
      obtain ⟨le, S'⟩ := S.pushF { cls := .type "list", data := .seq (pySl l lo hi).toArray } rfl
      have := hQ _ _ _ le S' ((vs.keeps (Heap.push_keeps _)).mono le) (.lst (Wd.addF_at ..) rfl rfl (by simpa using (h2.sl lo hi).mono le))
      simpa [pySl] using this
    · cases ht

theorem sim_slc {e : Expr} {lo hi : Option Expr} {p pos : Pos} {te : ET} {tl th : Option ET} (h1 : SimE C d σ e te) (h2 : SimO C d σ lo tl) (h3 : SimO C d σ hi th) : SimE C d σ (.Subscript e (.Slice lo hi none p) pos) (slc te tl th) := by
  intro env P own A W ρ H s Q X QQ E hK hA S vs ht hQ hE
  refine Subscript_ (h1 env P own A W ρ H s _ X _ E hK hA S vs ht (fun W₁ H₁ s₁ a x le₁ S₁ vs₁ ra q₁ => ?_) hE)
  refine wpAny_Slice (h2.sim hK hA S₁ vs₁ q₁ (fun W₂ H₂ s₂ l vl le₂ S₂ vs₂ pl q₂ => ?_) fun W' H' s' c e le => hE W' H' s' c e (le₁.trans le))
  refine h3.sim hK hA S₂ vs₂ q₂ (fun W₃ H₃ s₃ u vu le₃ S₃ vs₃ pu q₃ => ?_) fun W' H' s' c e le => hE W' H' s' c e ((le₁.trans le₂).trans le)
  obtain ⟨v, hv, q₃⟩ := got.ex q₃
  rw [evalPart_none]
  refine wpAny_pure ?_
  have S₄ := S₃.pushG { cls := .type "slice", data := .fields #[vl, vu, .none] }
  have vs₄ := vs₃.keeps (Heap.push_keeps { cls := .type "slice", data := .fields #[vl, vu, .none] })
  exact slice_sim S₄ vs₄ (ra.mono (le₂.trans le₃)) (Heap.IsSliceOf.new ..) pl pu hv fun W' s' z le S' vs' hr => hQ W' H₃ s' v z (((le₁.trans le₂).trans le₃).trans le) S' vs' hr q₃
end
end Mine
namespace Mine
open PySem PyProof.Rows PySem.SeqAt

/-! the built-in names -/
noncomputable def bltTypes : List String := ["tuple", "list", "dict", "str", "int", "bool", "range", "reversed"]
noncomputable def bltVal (f : String) : Value := if bltTypes.contains f then .type f else .builtin f
noncomputable def bltNames : List String := ["tuple", "list", "dict", "str", "int", "bool", "range", "reversed", "len", "isinstance", "max", "all"]
structure CxOK (C : Cx) : Prop where
  g : C.base.Ns mainGlobals C.mg
  b : C.base.Ns builtinsNs C.mb
  nolimit : C.base.NoLimit
  blt : ∀ f ∈ bltNames, C.mg (Str.ofString f) = none ∧ C.mb (Str.ofString f) = some (bltVal f)

section
variable {C : Cx} {d : Nat} {σ : Sc}

theorem St.up {P : Fz} {own : List Addr} {W : Wd} {H : Hp} {s : Shared} (S : St C P own W H s) : ∀ b o, C.base.get? b = some o → s.heap.get? b = some o := fun b o e => S.fin b o (S.base b o e)

/-- x is no name of the def's own -/
noncomputable def Sc.glob (σ : Sc) (x : Str) : Bool := σ.scope.names.lookup x == some .globalImplicit && !(x == ("__debug__" : Str))
theorem Sc.glob_spec {σ : Sc} {x : Str} (h : σ.glob x = true) : σ.scope.names.lookup x = some .globalImplicit ∧ (x == ("__debug__" : Str)) = false := by
  simp only [Sc.glob, Bool.and_eq_true, beq_iff_eq, Bool.not_eq_true'] at h
  exact h

theorem name_blt {P : Fz} {own : List Addr} {W : Wd} {H : Hp} {s : Shared} {A : Around} {env : Env} {f : String} {p : Pos} {QQ : Value → Shared → Prop} {E : Value → Shared → Prop} (hC : CxOK C) (hf : f ∈ bltNames) (hg : σ.glob f = true)
    (hK : EnvOK σ own env) (S : St C P own W H s) (h : QQ (bltVal f) s) : wpAny (model C.prog C.w) A (eval (.Name (Str.ofString f) p) env) QQ E s := by
  obtain ⟨h1, h2⟩ := Sc.glob_spec hg
  obtain ⟨h3, h4⟩ := hC.blt f hf
  refine Calls.Name_function_global (hK.scope ▸ hK.kind) (by show env.scope.names.lookup _ = _; rw [hK.scope]; exact h1) ?_ h2
  exact Calls.loadGlobal_builtin (by rw [hK.globals]; exact hC.g.keeps S.up) h3 (by rw [hK.builtins]; exact hC.b.keeps S.up) h4 h
theorem name_glob {P : Fz} {own : List Addr} {W : Wd} {H : Hp} {s : Shared} {A : Around} {env : Env} {f : Str} {v : Value} {p : Pos} {QQ : Value → Shared → Prop} {E : Value → Shared → Prop} (hC : CxOK C) (hf : C.mg f = some v) (hg : σ.glob f = true)
    (hK : EnvOK σ own env) (S : St C P own W H s) (h : QQ v s) : wpAny (model C.prog C.w) A (eval (.Name f p) env) QQ E s := by
  obtain ⟨h1, h2⟩ := Sc.glob_spec hg
  refine Calls.Name_function_global (hK.scope ▸ hK.kind) (by show env.scope.names.lookup _ = _; rw [hK.scope]; exact h1) ?_ h2
  exact Calls.loadGlobal_global (by rw [hK.globals]; exact hC.g.keeps S.up) hf h

theorem any_false {es : List Expr} {env : Env} : (es.map fun e => ((false, eval e env) : Bool × Sem Value)).any (·.1) = false := by
  induction es with
  | nil => rfl
  | cons e r ih => simp [ih]

theorem callWith_blt {M : Model} {A : Around} {E : Value → Shared → Prop} {s : Shared} {env : Env} {pos : Pos} {f : String} {e : Expr} {es : List Expr} {Q : Value → Shared → Prop}
    (h : wpAny M A (spliced ((e :: es).map fun e => (false, eval e env))) (fun vs s₁ => wpAny M A (call (bltVal f) vs) Q E s₁) E s) :
    wpAny M A (callWith pos (bltVal f) [] ((e :: es).map fun e => (false, eval e env)) []) Q E s := by
  unfold bltVal at h ⊢
  split
  · rename_i hc
    simp only [hc, if_true] at h
    exact PyProof.Rows.callWith_type any_false (Calls.evalArgs_plain h)
  · rename_i hc
    simp only [hc] at h
    exact Calls.callWith_builtin any_false (Calls.evalArgs_plain h)

/-! len -/
noncomputable def vlen : V → Hp → Option Nat
  | .tup xs, _ => some xs.length
  | .str x, _ => some x.length
  | .lst xs, _ => some xs.length
  | v, H => (asL v H).map (·.length)
noncomputable def leK (Q : V → Hp → Prop) (v : V) (H : Hp) : Prop := ∃ n, vlen v H = some n ∧ n < 2 ^ 63 ∧ Q (.int n) H
noncomputable def bLen (t : ET) : ET := fun ρ H Q X => t ρ H (leK Q) X
/-- a built-in is called with one part -/
theorem call_blt1 {f : String} {e : Expr} {t : ET} {p pos : Pos} (hC : CxOK C) (hf : f ∈ bltNames) (hg : σ.glob f = true) (h : SimE C d σ e t) (hs : noStar [e] = true)
    {env : Env} {P : Fz} {own : List Addr} {A : Around} {W : Wd} {ρ : Rho} {H : Hp} {s : Shared} {Q : V → Hp → Prop} {X : XP} {QQ : Value → Shared → Prop} {E : Value → Shared → Prop}
    (hK : EnvOK σ own env) (hA : AOK d A P own) (S : St C P own W H s) (vs : Vs C P own σ env W ρ s.heap) (ht : t ρ H Q X)
    (hQ : ∀ W' H' s' v x, W.Le W' → St C P own W' H' s' → Vs C P own σ env W' ρ s'.heap → Rep C W' v x → Q v H' → wpAny (model C.prog C.w) A (call (bltVal f) [x]) QQ E s')
    (hE : ∀ W' H' s' c e, W.Le W' → St C P own W' H' s' → Vs C P own σ env W' ρ s'.heap → Fly C P own W' c e s' → X c H' → E e s') :
    wpAny (model C.prog C.w) A (eval (.Call (.Name (Str.ofString f) p) [e] [] pos) env) QQ E s := by
  refine wpAny_Call_Name_kw (name_blt hC hf hg hK S ?_)
  rw [backTo_plain hs]
  refine callWith_blt (Calls.spliced_cons (h env P own A W ρ H s Q X _ E hK hA S vs ht (fun W' H' s' v x le S' vs' r q => Calls.spliced_nil (hQ W' H' s' v x le S' vs' r q)) hE))

theorem sim_len {e : Expr} {t : ET} {p pos : Pos} (hC : CxOK C) (h : SimE C d σ e t) (hg : σ.glob "len" = true) (hs : noStar [e] = true) : SimE C d σ (.Call (.Name (Str.ofString "len") p) [e] [] pos) (bLen t) := by
  intro env P own A W ρ H s Q X QQ E hK hA S vs ht hQ hE
  refine call_blt1 hC (by decide) hg h hs hK hA S vs ht (fun W' H' s' v x le S' vs' r q => ?_) hE
  obtain ⟨n, hn, hfit, q⟩ := q
  show wpAny _ A (call (.builtin "len") [x]) QQ E s'
  have hn : (∃ xs, v = .tup xs ∧ n = xs.length) ∨ (∃ y, v = .str y ∧ n = y.length) ∨ (asL v H').map (·.length) = some n := by
    cases v with
    | tup => cases hn; exact .inl ⟨_, rfl, rfl⟩
    | str => cases hn; exact .inr (.inl ⟨_, rfl, rfl⟩)
    | lst => cases hn; exact .inr (.inr rfl)
    | _ => exact .inr (.inr hn)
  rcases hn with ⟨ys, rfl, rfl⟩ | ⟨y, rfl, rfl⟩ | hn
  · obtain ⟨a, l, rfl, h1, h2⟩ := r.isTup S'
    have e := h2.length
    refine len_tuple h1 (by simp; (first | lia | omega)) (hQ W' H' _ _ _ le (S'.tok _) vs' ?_ q)
    simp only [List.size_toArray, ← e]; exact .int ..
  · cases r
    exact PySem.P.len_str (by (first | lia | omega)) (hQ W' H' _ _ _ le (S'.tok _) vs' (.int ..) q)
  · obtain ⟨xs, hxs, rfl⟩ := Option.map_eq_some_iff.mp hn
    obtain ⟨a, l, rfl, h1, h2⟩ := asL_spec r S' hxs
    have e := h2.length
    refine len_list h1 (by simp; (first | lia | omega)) (hQ W' H' _ _ _ le (S'.tok _) vs' ?_ q)
    simp only [List.size_toArray, ← e]; exact .int ..

/-! tuple(..) of a list or a tuple -/
/-! max -/
noncomputable def intsOf : List V → Option (List Int)
  | [] => some []
  | .int i :: r => (intsOf r).map (i :: ·)
  | _ :: _ => none
theorem intsOf_eq : ∀ {vs : List V} {l : List Int}, intsOf vs = some l → vs = l.map V.int
  | [], l, h => by cases h; rfl
  | v :: r, l, h => by
    cases v <;> first | (cases h; done) | skip
    obtain ⟨l', hl, rfl⟩ := Option.map_eq_some_iff.mp h
    rw [intsOf_eq hl]; rfl
/-! all -/
/-! isinstance by a built-in class -/
inductive Ty where | int | bool | str | tuple | list
noncomputable def Ty.name : Ty → String
  | .int => "int" | .bool => "bool" | .str => "str" | .tuple => "tuple" | .list => "list"
noncomputable def Ty.b : Ty → Bool | .int => true | .bool => true | _ => false
noncomputable def Ty.i : Ty → Bool | .int => true | _ => false
noncomputable def Ty.s : Ty → Bool | .str => true | _ => false
noncomputable def Ty.t : Ty → Bool | .tuple => true | _ => false
noncomputable def Ty.l : Ty → Bool | .list => true | _ => false
noncomputable def isi : V → Ty → Hp → Option Bool
  | .none, _, _ => some false
  | .bool _, T, _ => some T.b
  | .int _, T, _ => some T.i
  | .str _, T, _ => some T.s
  | .tup _, T, _ => some T.t
  | .lst _, T, _ => some T.l
  | .dct _, _, _ => some false
  | .ref _, _, _ => none
  | .obj _, _, _ => none
noncomputable def biK (T : Ty) (Q : V → Hp → Prop) (v : V) (H : Hp) : Prop := got (isi v T H) (boK Q H)
noncomputable def bIsi (t : ET) (T : Ty) : ET := fun ρ H Q X => t ρ H (biK T Q) X
theorem isi_sim {P : Fz} {own : List Addr} {W : Wd} {H : Hp} {s : Shared} {A : Around} {v : V} {x : Value} {T : Ty} {b : Bool} {QQ : Value → Shared → Prop} {E : Value → Shared → Prop} (S : St C P own W H s) (r : Rep C W v x) (hb : isi v T H = some b)
    (hQ : ∀ t, QQ (.bool b) { s with toks := t }) : wpAny (model C.prog C.w) A (call (.builtin "isinstance") [x, .type T.name]) QQ E s := by
  cases r with
  | none => cases T <;> cases hb <;> first | exact IsiPair.NoneType_int (hQ _) | exact IsiPair.NoneType_bool (hQ _) | exact IsiPair.NoneType_str (hQ _) | exact IsiPair.NoneType_tuple (hQ _) | exact IsiPair.NoneType_list (hQ _)
  | bool => cases T <;> cases hb <;> first | exact IsiPair.bool_int (hQ _) | exact IsiPair.bool_bool (hQ _) | exact IsiPair.bool_str (hQ _) | exact IsiPair.bool_tuple (hQ _) | exact IsiPair.bool_list (hQ _)
  | int => cases T <;> cases hb <;> first | exact IsiPair.int_int (hQ _) | exact IsiPair.int_bool (hQ _) | exact IsiPair.int_str (hQ _) | exact IsiPair.int_tuple (hQ _) | exact IsiPair.int_list (hQ _)
  | str => cases T <;> cases hb <;> first | exact IsiPair.str_int (hQ _) | exact IsiPair.str_bool (hQ _) | exact IsiPair.str_str (hQ _) | exact IsiPair.str_tuple (hQ _) | exact IsiPair.str_list (hQ _)
  | tup h1 h2 => cases T <;> cases hb <;> first | exact IsiPair.tuple_int (S.fin _ _ h1) h2 (hQ _) | exact IsiPair.tuple_bool (S.fin _ _ h1) h2 (hQ _) | exact IsiPair.tuple_str (S.fin _ _ h1) h2 (hQ _) | exact IsiPair.tuple_tuple (S.fin _ _ h1) h2 (hQ _) | exact IsiPair.tuple_list (S.fin _ _ h1) h2 (hQ _)
  | lst h1 h2 => cases T <;> cases hb <;> first | exact IsiPair.list_int (S.fin _ _ h1) h2 (hQ _) | exact IsiPair.list_bool (S.fin _ _ h1) h2 (hQ _) | exact IsiPair.list_str (S.fin _ _ h1) h2 (hQ _) | exact IsiPair.list_tuple (S.fin _ _ h1) h2 (hQ _) | exact IsiPair.list_list (S.fin _ _ h1) h2 (hQ _)
  | dct h1 h2 =>
    obtain ⟨_, _, hx, _⟩ := h2
    cases T <;> cases hb <;> first | exact IsiPair.dict_int (S.fin _ _ h1) hx.1 (hQ _) | exact IsiPair.dict_bool (S.fin _ _ h1) hx.1 (hQ _) | exact IsiPair.dict_str (S.fin _ _ h1) hx.1 (hQ _) | exact IsiPair.dict_tuple (S.fin _ _ h1) hx.1 (hQ _) | exact IsiPair.dict_list (S.fin _ _ h1) hx.1 (hQ _)
  | @ref n a hφ => cases hb
  | obj => cases hb

theorem sim_isi {e : Expr} {t : ET} {T : Ty} {p p' pos : Pos} (hC : CxOK C) (h : SimE C d σ e t) (hg : σ.glob "isinstance" = true) (hg' : σ.glob T.name = true) (hs : noStar [e] = true) :
    SimE C d σ (.Call (.Name (Str.ofString "isinstance") p) [e, .Name (Str.ofString T.name) p'] [] pos) (bIsi t T) := by
  intro env P own A W ρ H s Q X QQ E hK hA S vs ht hQ hE
  refine wpAny_Call_Name_kw (name_blt hC (by decide) hg hK S ?_)
  have hs' : noStar [e, .Name (Str.ofString T.name) p'] = true := by
    cases e <;> first | rfl | cases hs
  rw [backTo_plain hs']
  refine callWith_blt (Calls.spliced_cons (h env P own A W ρ H s _ X _ E hK hA S vs ht (fun W' H' s' v x le S' vs' r q => ?_) hE))
  obtain ⟨b, hb, q⟩ := got.ex q
  have hT : bltVal T.name = .type T.name := by cases T <;> rfl
  refine Calls.spliced_cons (name_blt hC (by cases T <;> decide) hg' hK S' ?_)
  refine Calls.spliced_nil ?_
  rw [hT]
  exact isi_sim S' r hb fun t => hQ W' H' _ _ _ le (S'.tok t) vs' (.bool b) q
end
end Mine
namespace Mine
open PySem PyProof.Rows PySem.SeqAt

/-! calls of the text's own defs -/
/-- at depth d the defs do what S says -/
noncomputable def GoodOrc (C : Cx) (d : Nat) (S : Orc) : Prop :=
  ∀ (f : String) (vs : List V) (H : Hp) (Q : V → Hp → Prop) (X : XP), S f vs H Q X →
    ∃ a o fd, C.adr (Str.ofString f) = some a ∧ C.base.get? a = some o ∧ o.data = .func fd ∧
      ∀ (P : Fz) (W : Wd) (s : Shared) (A : Around) (xs : List Value) (QQ : Value → Shared → Prop) (E : Value → Shared → Prop),
        AOC d A P → St C P [] W H s → RepL C W vs xs →
        (∀ W' H' s' v x, W.Le W' → St C P [] W' H' s' → Rep C W' v x → Q v H' → QQ x s') →
        (∀ W' H' s' c e, W.Le W' → St C P [] W' H' s' → Fly C P [] W' c e s' → X c H' → E e s') →
        wpAny (model C.prog C.w) A (call (.ref a) xs) QQ E s

section
variable {C : Cx} {d : Nat} {σ : Sc} {S : Orc}

/-! statements -/
noncomputable def kont (b : ST) (U : Fl → Rho → Hp → Prop) (X : XP) (fl : Fl) (ρ : Rho) (H : Hp) : Prop := match fl with | .next => b ρ H U X | fl => U fl ρ H
noncomputable def seqS (a b : ST) : ST := fun ρ H Q X => a ρ H (kont b Q X) X
noncomputable def skipS : ST := fun ρ H Q _ => Q .next ρ H
noncomputable def blkC (t : ST) (_ : List ST) (k : ST) : ST := seqS t k
noncomputable def blk (ts : List ST) : ST := List.rec skipS blkC ts

theorem simSs_nil : SimSs C d σ [] (blk []) := by
  intro env P own A W ρ H s Q X QQ E hK hO hA St₀ vs ht hQ hE
  exact wpAny_execs_nil (hQ W ρ H s _ _ (.refl W) St₀ vs .next ht)
theorem simSs_cons {st : Stmt} {rest : List Stmt} {t : ST} {ts : List ST} (h1 : SimS C d σ st t) (h2 : SimSs C d σ rest (blk ts)) : SimSs C d σ (st :: rest) (blk (t :: ts)) := by
  intro env P own A W ρ H s Q X QQ E hK hO hA St₀ vs ht hQ hE
  refine wpAny_execs_cons (h1 env P own A W ρ H s _ X _ E hK hO hA St₀ vs ht (fun W₁ ρ₁ H₁ s₁ fl x le₁ S₁ vs₁ r₁ q₁ => ?_) hE)
  cases r₁ with
  | next => exact h2 env P own A W₁ ρ₁ H₁ s₁ Q X QQ E hK hO hA S₁ vs₁ q₁ (fun W₂ ρ₂ H₂ s₂ fl x le₂ => hQ W₂ ρ₂ H₂ s₂ fl x (le₁.trans le₂)) fun W₂ ρ₂ H₂ s₂ c e le₂ => hE W₂ ρ₂ H₂ s₂ c e (le₁.trans le₂)
  | brk => exact hQ W₁ ρ₁ H₁ s₁ _ _ le₁ S₁ vs₁ .brk q₁
  | cont => exact hQ W₁ ρ₁ H₁ s₁ _ _ le₁ S₁ vs₁ .cont q₁
  | ret r => exact hQ W₁ ρ₁ H₁ s₁ _ _ le₁ S₁ vs₁ (.ret r) q₁

noncomputable def reK (ρ : Rho) (Q : Fl → Rho → Hp → Prop) (v : V) (H : Hp) : Prop := Q (.ret v) ρ H
noncomputable def retS (t : ET) : ST := fun ρ H Q X => t ρ H (reK ρ Q) X
theorem sim_ret {e : Expr} {pos : Pos} {t : ET} (h : SimE C d σ e t) : SimS C d σ (.Return (some e) pos) (retS t) := by
  intro env P own A W ρ H s Q X QQ E hK hO hA St₀ vs ht hQ hE
  refine wpAny_Return_some (h env P own A W ρ H s _ X _ E hK hA St₀ vs ht (fun W₁ H₁ s₁ v x le₁ S₁ vs₁ r₁ q₁ => ?_) fun W' H' s' => hE W' ρ H' s')
  exact hQ W₁ ρ H₁ s₁ _ _ le₁ S₁ vs₁ (.ret r₁) q₁

noncomputable def ifK (a b : ST) (ρ : Rho) (Q : Fl → Rho → Hp → Prop) (X : XP) (r : Bool) (H : Hp) : Prop := Br (a ρ H Q X) (b ρ H Q X) r
noncomputable def ifS (t : BT) (a b : ST) : ST := fun ρ H Q X => t ρ H (ifK a b ρ Q X) X
theorem sim_if {e : Expr} {a b : List Stmt} {pos : Pos} {t : BT} {ta tb : ST} (h : SimT C d σ e t) (h1 : SimSs C d σ a ta) (h2 : SimSs C d σ b tb) : SimS C d σ (.If e a b pos) (ifS t ta tb) := by
  intro env P own A W ρ H s Q X QQ E hK hO hA St₀ vs ht hQ hE
  refine wpAny_If (h env P own A W ρ H s _ X _ E hK hA St₀ vs ht (fun W' H' s' r le S' vs' hq => ?_) fun W' H' s' => hE W' ρ H' s')
  cases r with
  | true => exact h1 env P own A W' ρ H' s' Q X QQ E hK hO hA S' vs' (hq.t rfl) (fun W₂ ρ₂ H₂ s₂ v x le₂ => hQ W₂ ρ₂ H₂ s₂ v x (le.trans le₂)) fun W₂ ρ₂ H₂ s₂ c e le₂ => hE W₂ ρ₂ H₂ s₂ c e (le.trans le₂)
  | false => exact h2 env P own A W' ρ H' s' Q X QQ E hK hO hA S' vs' (hq.f rfl) (fun W₂ ρ₂ H₂ s₂ v x le₂ => hQ W₂ ρ₂ H₂ s₂ v x (le.trans le₂)) fun W₂ ρ₂ H₂ s₂ c e le₂ => hE W₂ ρ₂ H₂ s₂ c e (le.trans le₂)

/-- a name is bound -/
theorem Vs.store {P : Fz} {own : List Addr} {env : Env} {W : Wd} {ρ : Rho} {H : Hp} {s : Shared} {A : Around} {QQ : Unit → Shared → Prop} {E : Value → Shared → Prop} {x : Str} {i : Nat} {v : V} {y : Value}
    (hK : EnvOK σ own env) (hO : OwnC own env A ∨ σ.scope.names.lookup x = some .local) (St₀ : St C P own W H s) (vs : Vs C P own σ env W ρ s.heap) (hx : σ.has x i = true) (hr : Rep C W v y)
    (hQ : ∀ s', St C P own W H s' → Vs C P own σ env W (Mine.upd ρ i v) s'.heap → QQ () s') : wpAny (model C.prog C.w) A (storeName env x y) QQ E s := by
  obtain ⟨hm, hk, hd⟩ := Sc.has_spec hx
  have hkind : env.scope.kind = .function := hK.scope ▸ hK.kind
  have slot : ∀ z j, (z, j) ∈ σ.vars → j = i → z = x := fun z j hz e => by
    subst e
    have := hK.slots
    obtain ⟨p, hp, ep⟩ := List.getElem_of_mem hz
    obtain ⟨q, hq, eq⟩ := List.getElem_of_mem hm
    have hpq : p = q := by
      rcases Nat.lt_trichotomy p q with h | h | h
      · have := List.pairwise_iff_getElem.mp this p q (by simpa using hp) (by simpa using hq) h
        simp [ep, eq] at this
      · exact h
      · have := List.pairwise_iff_getElem.mp this q p (by simpa using hq) (by simpa using hp) h
        simp [ep, eq] at this
    subst hpq
    rw [ep] at eq
    exact (Prod.mk.inj eq).1
  have name : ∀ j, (x, j) ∈ σ.vars → j = i := fun j hz => by
    have := hK.names
    obtain ⟨p, hp, ep⟩ := List.getElem_of_mem hz
    obtain ⟨q, hq, eq⟩ := List.getElem_of_mem hm
    have hpq : p = q := by
      rcases Nat.lt_trichotomy p q with h | h | h
      · have := List.pairwise_iff_getElem.mp this p q (by simpa using hp) (by simpa using hq) h
        simp [ep, eq] at this
      · exact h
      · have := List.pairwise_iff_getElem.mp this q p (by simpa using hq) (by simpa using hp) h
        simp [ep, eq] at this
    subst hpq
    rw [ep] at eq
    exact (Prod.mk.inj eq).2
  rcases hk with hk | hk
  · obtain ⟨m, hns, hvar⟩ := vs.ns
    refine wpAny_storeName_local (by show env.scope.names.lookup x = _; rw [hK.scope]; exact hk) hns (fun h' hn hsb => ?_) (by rw [hkind]; rfl)
    refine hQ _ (St₀.own_upd hK.loc hsb (let ⟨o, _, _, e, f, _⟩ := hn; ⟨o, e, fun _ q => nomatch (f.symm.trans q)⟩) rfl rfl) ⟨⟨_, hn, fun z j hz hl w hw => ?_⟩, fun z j hz hc => ?_⟩
    · by_cases q : z = x
      · subst q
        have : j = i := name j hz
        subst this
        rw [upd_same] at hw; cases hw
        exact ⟨y, by simp, hr⟩
      · have hj : j ≠ i := fun e => q (slot z j hz e)
        rw [upd_ne hj] at hw
        obtain ⟨y', e, r⟩ := hvar z j hz hl w hw
        exact ⟨y', by simp [q, e], r⟩
    · obtain ⟨c, cv, h1, h2, h3, h4, h5⟩ := vs.cell z j hz hc
      refine ⟨c, cv, h1, h2.sameBut hsb h4, h3, h4, fun w hw => ?_⟩
      have hj : j ≠ i := fun e => by
        have := slot z j hz e
        subst this
        rw [hk] at hc; cases hc
      rw [upd_ne hj] at hw
      exact h5 w hw
  · replace hO : OwnC own env A := hO.elim id fun q => by rw [hk] at q; cases q
    obtain ⟨c, cv, h1, h2, h3, h4, h5⟩ := vs.cell x i hm hk
    refine wpAny_storeName_cell hkind (by show env.scope.names.lookup x = _; rw [hK.scope]; exact hk) h1 h2 fun h' hc hsb => ?_
    refine hQ _ (St₀.own_upd (hO.cells x c h1) hsb (let ⟨o, e, f⟩ := hc; ⟨o, e, fun _ q => nomatch (f.symm.trans q)⟩) rfl rfl) ⟨?_, fun z j hz hcz => ?_⟩
    · obtain ⟨m, hns, hvar⟩ := vs.ns
      refine ⟨m, hns.sameBut hsb (Ne.symm h4), fun z j hz hl w hw => ?_⟩
      have hj : j ≠ i := fun e => by
        have := slot z j hz e
        subst this
        rw [hk] at hl; cases hl
      rw [upd_ne hj] at hw
      exact hvar z j hz hl w hw
    · by_cases q : z = x
      · subst q
        have : j = i := name j hz
        subst this
        exact ⟨c, some y, h1, hc, .inl (hO.cells z c h1), h4, fun w hw => by rw [upd_same] at hw; cases hw; exact ⟨y, rfl, hr⟩⟩
      · obtain ⟨c', cv', g1, g2, g3, g4, g5⟩ := vs.cell z j hz hcz
        have hne : c' ≠ c := fun e => q (hO.apart z x c (e ▸ g1) h1)
        refine ⟨c', cv', g1, g2.sameBut hsb hne, g3, g4, fun w hw => ?_⟩
        have hj : j ≠ i := fun e => q (slot z j hz e)
        rw [upd_ne hj] at hw
        exact g5 w hw

noncomputable def asK (i : Nat) (ρ : Rho) (Q : Fl → Rho → Hp → Prop) (v : V) (H : Hp) : Prop := Q .next (upd ρ i v) H
noncomputable def asg (i : Nat) (t : ET) : ST := fun ρ H Q X => t ρ H (asK i ρ Q) X
/-- the value is no comprehension -/
noncomputable def noComp : Expr → Bool
  | .ListComp .. | .SetComp .. | .DictComp .. => false
  | _ => true
theorem swaps_noComp {e : Expr} {t : Option Expr} {n : Nat} {env : Env} (h : noComp e = true) : swapsWith e t n env = pure false := by
  cases e <;> first | rfl | cases h
theorem sim_asg {x : Str} {i : Nat} {e : Expr} {p pos : Pos} {t : ET} (h : SimE C d σ e t) (hx : σ.has x i = true) (hc : noComp e = true) : SimS C d σ (.Assign [.Name x p] e pos) (asg i t) := by
  intro env P own A W ρ H s Q X QQ E hK hO hA St₀ vs ht hQ hE
  refine wpAny_Assign_Name (h env P own A W ρ H s _ X _ E hK hA St₀ vs ht (fun W₁ H₁ s₁ v y le₁ S₁ vs₁ r₁ q₁ => ?_) fun W' H' s' => hE W' ρ H' s') (swaps_noComp hc)
  exact vs₁.store hK (.inl hO) S₁ hx r₁ fun s' S' vs' => hQ W₁ _ H₁ s' _ _ le₁ S' vs' .next q₁

end
end Mine
namespace Mine
open PySem PyProof.Rows PySem.SeqAt

abbrev IT := Rho → Hp → (List V → Hp → Prop) → XP → Prop

/-- an iterator over xs stands at I -/
structure Iter (C : Cx) (P : Fz) (own : List Addr) (W : Wd) (A : Around) (I : Addr) (xs : List V) (h : Heap) : Prop where
  F : W.F I = none
  P : P I = none
  φ : I ∉ W.φ
  own : I ∉ own
  walk : ∃ fp Pi Sti, Walks C.prog C.w A I fp [I] xs.length Pi Sti ∧ Sti 0 h ∧ (∀ j v, j < xs.length → Pi j v → ∃ x, xs[j]? = some x ∧ Rep C W x v) ∧ (∀ b ∈ fp, b = I ∨ ∃ o, W.F b = some o) ∧ (∀ j h, Sti j h → ∃ o, h.get? I = some o ∧ o.cls ≠ softCls)

noncomputable def SimI (C : Cx) (d : Nat) (σ : Sc) (e : Expr) (t : IT) : Prop :=
  ∀ (env : Env) (P : Fz) (own : List Addr) (A : Around) (W : Wd) (ρ : Rho) (H : Hp) (s : Shared) (Q : List V → Hp → Prop) (X : XP) (QQ : Value → Shared → Prop) (E : Value → Shared → Prop),
    EnvOK σ own env → AOK d A P own → St C P own W H s → Vs C P own σ env W ρ s.heap → t ρ H Q X →
    (∀ W' H' s' xs I, W.Le W' → St C P own W' H' s' → Vs C P own σ env W' ρ s'.heap → Iter C P own W' A I xs s'.heap → Q xs H' → QQ (.ref I) s') →
    (∀ W' H' s' c e, W.Le W' → St C P own W' H' s' → Vs C P own σ env W' ρ s'.heap → Fly C P own W' c e s' → X c H' → E e s') →
    wpAny (model C.prog C.w) A (eval e env) (fun x s₁ => wpAny (model C.prog C.w) A (pyIter x) QQ E s₁) E s

/-- over a list or a tuple -/
noncomputable def itemsOf : V → Option (List V)
  | .lst xs => some xs
  | .tup xs => some xs
  | _ => none
noncomputable def ivL (Q : List V → Hp → Prop) (H : Hp) (xs : List V) : Prop := Q xs H
noncomputable def ivK (Q : List V → Hp → Prop) (v : V) (H : Hp) : Prop := got (itemsOf v) (ivL Q H)
noncomputable def itV (t : ET) : IT := fun ρ H Q X => t ρ H (ivK Q) X

section
variable {C : Cx} {d : Nat} {σ : Sc}

theorem simI_val {e : Expr} {t : ET} (h : SimE C d σ e t) : SimI C d σ e (itV t) := by
  intro env P own A W ρ H s Q X QQ E hK hA S vs ht hQ hE
  refine h env P own A W ρ H s _ X _ E hK hA S vs ht (fun W' H' s' v x le S' vs' r q => ?_) hE
  obtain ⟨xs, hxs, q⟩ := got.ex q
  have fr := S'.fresh (Heap.none_size s'.heap)
  cases r with
  | @lst ys a o items n h1 h2 h3 h4 =>
    cases hxs
    have hl : s'.heap.IsList a items := ⟨o, S'.fin _ _ h1, h2, n, h3⟩
    have hlt : a ≠ s'.heap.objs.size := Nat.ne_of_lt (Heap.lt_size (S'.fin _ _ h1))
    refine wpAny_pyIter_list hl (hQ W' H' _ _ _ le (S'.pushG _) (vs'.keeps (Heap.push_keeps _)) ⟨fr.1, fr.2.1, fr.2.2.1, fr.2.2.2, ?_⟩ q)
    have hw := Walks.list (prog := C.prog) (w := C.w) (A := A) hA.handled s'.heap.objs.size a hlt items
    have e : items.size = xs.length := by rw [h4.length, Array.length_toList]
    rw [e] at hw
    refine ⟨_, _, _, hw, ⟨⟨_, Heap.get?_push_size _ rfl, rfl, rfl⟩, hl.push _⟩, fun j v hj hv => ?_, fun b hb => ?_, fun j h hst => let ⟨o, ho, hc, _⟩ := hst.1; ⟨o, ho, fun q => nomatch (hc.symm.trans q : Value.type _ = Value.builtin _)⟩⟩
    · obtain ⟨x, hx, hr⟩ := h4.get (i := j) (v := xs[j]) (by simp)
      refine ⟨xs[j], by simp, ?_⟩
      have : items.toList[j]? = some v := by simpa using hv
      rw [this] at hx; cases hx; exact hr
    · simp only [List.mem_cons, List.not_mem_nil, or_false] at hb
      rcases hb with rfl | rfl
      · exact .inl rfl
      · exact .inr ⟨o, h1⟩
  | @tup ys a o items n h1 h2 h3 h4 =>
    cases hxs
    have hl : s'.heap.IsTuple a items := ⟨o, S'.fin _ _ h1, h2, n, h3⟩
    have hlt : a ≠ s'.heap.objs.size := Nat.ne_of_lt (Heap.lt_size (S'.fin _ _ h1))
    refine wpAny_pyIter_tuple hl (hQ W' H' _ _ _ le (S'.pushG _) (vs'.keeps (Heap.push_keeps _)) ⟨fr.1, fr.2.1, fr.2.2.1, fr.2.2.2, ?_⟩ q)
    have hw := Walks.tuple (prog := C.prog) (w := C.w) (A := A) hA.handled s'.heap.objs.size a hlt items
    have e : items.size = xs.length := by rw [h4.length, Array.length_toList]
    rw [e] at hw
    refine ⟨_, _, _, hw, ⟨⟨_, Heap.get?_push_size _ rfl, rfl, rfl⟩, hl.push _⟩, fun j v hj hv => ?_, fun b hb => ?_, fun j h hst => let ⟨o, ho, hc, _⟩ := hst.1; ⟨o, ho, fun q => nomatch (hc.symm.trans q : Value.type _ = Value.builtin _)⟩⟩
    · obtain ⟨x, hx, hr⟩ := h4.get (i := j) (v := xs[j]) (by simp)
      refine ⟨xs[j], by simp, ?_⟩
      have : items.toList[j]? = some v := by simpa using hv
      rw [this] at hx; cases hx; exact hr
    · simp only [List.mem_cons, List.not_mem_nil, or_false] at hb
      rcases hb with rfl | rfl
      · exact .inl rfl
      · exact .inr ⟨o, h1⟩
  | _ => cases hxs

/-- over range(n) -/
noncomputable def upto (n : Int) : List V := (List.range n.toNat).map fun (k : Nat) => .int (k : Int)
noncomputable def irL (Q : List V → Hp → Prop) (H : Hp) (n : Int) : Prop := (-1000000 < n ∧ n < 1000000) ∧ Q (upto n) H
noncomputable def irK (Q : List V → Hp → Prop) (v : V) (H : Hp) : Prop := gotI v (irL Q H)
noncomputable def itR (t : ET) : IT := fun ρ H Q X => t ρ H (irK Q) X
theorem upto_len (n : Int) : (upto n).length = n.toNat := by simp [upto]
theorem simI_range {e : Expr} {t : ET} {p pos : Pos} (hC : CxOK C) (h : SimE C d σ e t) (hg : σ.glob "range" = true) (hs : noStar [e] = true) : SimI C d σ (.Call (.Name (Str.ofString "range") p) [e] [] pos) (itR t) := by
  intro env P own A W ρ H s Q X QQ E hK hA S vs ht hQ hE
  refine call_blt1 hC (by decide) hg h hs hK hA S vs ht (fun W' H' s' v x le S' vs' r q => ?_) hE
  obtain ⟨n, rfl, hn, q⟩ := gotI.ex q
  cases r
  show wpAny _ A (call (.type "range") [.int n _]) _ E s'
  refine call_range_1 ?_
  have hr := IsRange.new s'.heap 0 n 1 s'.toks (by assumption) (s'.toks + 1)
  have S₁ := (S'.pushG { cls := .type "range", data := .fields #[.int 0 s'.toks, .int n (by assumption), .int 1 (s'.toks + 1)] }).tok (s'.toks + 1 + 1)
  refine wpAny_pyIter_range hr (small_one (by decide) (by decide) (by (first | lia | omega)) (by (first | lia | omega))) ?_
  have fr := S₁.fresh (Heap.none_size _)
  refine hQ W' H' _ (upto n) _ le (S₁.pushG _) ((vs'.keeps (Heap.push_keeps _)).keeps (Heap.push_keeps _)) ⟨fr.1, fr.2.1, fr.2.2.1, fr.2.2.2, ?_⟩ q
  have e : Builtin.Range.rangeSize 0 n 1 = ((upto n).length : Int) := by rw [rangeSize_one, upto_len]; split <;> (first | lia | omega)
  have hw := Walks.range (prog := C.prog) (w := C.w) (A := A) hA.handled (s'.heap.push { cls := .type "range", data := .fields #[.int 0 s'.toks, .int n (by assumption), .int 1 (s'.toks + 1)] }).objs.size 0 1 (upto n).length
  refine ⟨_, _, _, hw, ?_, fun j v hj hv => ?_, fun b hb => .inl (by simpa using hb), fun j h hst => ⟨_, hst, fun q => nomatch (q : Value.type _ = Value.builtin _)⟩⟩
  · rw [e]
    have := Heap.get?_push_size (s'.heap.push { cls := .type "range", data := .fields #[.int 0 s'.toks, .int n (by assumption), .int 1 (s'.toks + 1)] }) (o := { cls := .type "range_iterator", data := .fields #[rawInt 0, rawInt ((upto n).length : Int), rawInt 1] }) rfl
    simpa using this
  · obtain ⟨t, rfl⟩ := hv
    rw [upto_len] at hj
    refine ⟨.int (j : Int), by simp [upto, hj], ?_⟩
    rw [show (0 : Int) + (j : Int) * 1 = j by (first | lia | omega)]
    exact .int ..

/-! for -/
noncomputable def lpK (k : ST) (U : Fl → Rho → Hp → Prop) (X : XP) (fl : Fl) (ρ : Rho) (H : Hp) : Prop := match fl with
  | .next | .cont => k ρ H U X
  | .brk => U .next ρ H
  | .ret v => U (.ret v) ρ H
noncomputable def forG (i : Nat) (body : ST) : List V → ST
  | [] => fun ρ H Q _ => Q .next ρ H
  | v :: vs => fun ρ H Q X => body (upd ρ i v) H (lpK (fun ρ H Q X => Box (forG i body vs ρ H Q X)) Q X) X
noncomputable def forL (i : Nat) (body : ST) (xs : List V) : ST := fun ρ H Q X => Box (forG i body xs ρ H Q X)
theorem forL_nil {i : Nat} {body : ST} {ρ : Rho} {H : Hp} {Q : Fl → Rho → Hp → Prop} {X : XP} : forL i body [] ρ H Q X = Q .next ρ H := Box.eq
theorem forL_cons {i : Nat} {body : ST} {v : V} {vs : List V} {ρ : Rho} {H : Hp} {Q : Fl → Rho → Hp → Prop} {X : XP} : forL i body (v :: vs) ρ H Q X = body (upd ρ i v) H (lpK (forL i body vs) Q X) X := Box.eq
noncomputable def foK (i : Nat) (body : ST) (ρ : Rho) (Q : Fl → Rho → Hp → Prop) (X : XP) (xs : List V) (H : Hp) : Prop := forL i body xs ρ H Q X
noncomputable def forS (i : Nat) (it : IT) (body : ST) : ST := fun ρ H Q X => it ρ H (foK i body ρ Q X) X

theorem St.keepsBut {P : Fz} {own : List Addr} {W : Wd} {H : Hp} {s s' : Shared} {I : Addr} (S : St C P own W H s) (hk : ∀ b o, b ∉ [I] → s.heap.get? b = some o → s'.heap.get? b = some o) (hF : W.F I = none) (hP : P I = none) (hφ : I ∉ W.φ) (hown : I ∉ own)
    (hg : s'.gens = s.gens) (ho : s'.os = s.os) : St C P own W H s' where
  base := S.base
  fin := fun a o e => hk a o (by simpa using fun q : a = I => by rw [q, hF] at e; cases e) (S.fin a o e)
  pin := fun a o e => let ⟨o', h1, h2⟩ := S.pin a o e; ⟨o', hk a o' (by simpa using fun q : a = I => by rw [q, hP] at e; cases e) h1, h2⟩
  pF := S.pF
  hp := { len := S.hp.len, nodup := S.hp.nodup, ex := fun a ha => let ⟨o, e⟩ := S.hp.ex a ha; ⟨o, hk a o (by simpa using fun q : a = I => hφ (q ▸ ha)) e⟩, priv := S.hp.priv,
          at_ := fun n m e hd => let ⟨a, o, h1, h2, h3, h4⟩ := S.hp.at_ n m e hd; ⟨a, o, h1, h2, hk a o (by simpa using fun q : a = I => hφ (q ▸ List.mem_of_getElem? h1)) h3, h4⟩ }
  ownF := S.ownF
  ownP := S.ownP
  ownφ := S.ownφ
  ownEx := fun a ha => let ⟨o, e, f⟩ := S.ownEx a ha; ⟨o, hk a o (by simpa using fun q : a = I => hown (q ▸ ha)) e, f⟩
  gens := hg.trans S.gens
  os := ho.trans S.os
theorem Vs.keepsBut {P : Fz} {own : List Addr} {W : Wd} {env : Env} {ρ : Rho} {h h' : Heap} {I : Addr} (K : EnvOK σ own env) (x : Vs C P own σ env W ρ h) (hk : ∀ b o, b ∉ [I] → h.get? b = some o → h'.get? b = some o) (hP : P I = none) (hown : I ∉ own) : Vs C P own σ env W ρ h' :=
  x.at_ K fun a ha o e => ⟨o, hk a o (by
    simp only [List.mem_singleton]
    rintro rfl
    rcases ha with ha | ⟨o, e⟩
    · exact hown ha
    · rw [hP] at e; cases e) e, rfl⟩
theorem Vs.anyP {P P' : Fz} {own : List Addr} {W : Wd} {env : Env} {A : Around} {ρ : Rho} {h : Heap} (hO : OwnC own env A) (x : Vs C P own σ env W ρ h) : Vs C P' own σ env W ρ h where
  ns := x.ns
  cell := fun y i hy hc => by
    obtain ⟨c, cv, h1, h2, h3, h4⟩ := x.cell y i hy hc
    exact ⟨c, cv, h1, h2, .inl (hO.cells y c h1), h4⟩

/-- the iterator is not a set display -/
noncomputable def noSet : Expr → Bool
  | .Set .. => false
  | _ => true
theorem folded_noSet {e : Expr} {env : Env} {x : Value} (h : noSet e = true) : foldedSetIterable e env x = pure x := by
  cases e <;> first | rfl | cases h

/-- how it stands before each turn -/
structure ForI (C : Cx) (P : Fz) (own : List Addr) (σ : Sc) (env : Env) (I : Addr) (W₁ : Wd) (xs : List V) (Sti : Nat → Heap → Prop) (go : Nat → Rho → Hp → Prop) (k : Nat) (s' : Shared) (j : Nat) (W' : Wd) (ρ' : Rho) (H' : Hp) : Prop where
  hk : k = xs.length + 1 - j
  hj : j ≤ xs.length
  le' : W₁.Le W'
  S' : St C P own W' H' s'
  vs' : Vs C P own σ env W' ρ' s'.heap
  hstj : Sti j s'.heap
  hF : W'.F I = none
  hφ : I ∉ W'.φ
  q' : go j ρ' H'
theorem sim_for {x : Str} {i : Nat} {px pos : Pos} {iter : Expr} {body : List Stmt} {it : IT} {tb : ST} (h : SimI C d σ iter it) (hb : SimSs C d σ body tb) (hx : σ.has x i = true) (hs : noSet iter = true) :
    SimS C d σ (.For (.Name x px) iter body [] pos) (forS i it tb) := by
  intro env P own A W ρ H s Q X QQ E hK hO hA S vs ht hQ hE
  refine wpAny_For (h env P own A W ρ H s _ X _ E hK hA S vs ht (fun W₁ H₁ s₁ xs I le₁ S₁ vs₁ hI q₁ => ?_) fun W' H' s' => hE W' ρ H' s') fun _ => folded_noSet hs
  obtain ⟨fp, Pi, Sti, hw, hst, hit, hfp, hex⟩ := hI.walk
  refine codeAny_forLoop (fun k s' => ∃ j W' ρ' H', ForI C P own σ env I W₁ xs Sti (fun j ρ' H' => forL i tb (xs.drop j) ρ' H' Q X) k s' j W' ρ' H') ?_ (xs.length + 1) ⟨0, W₁, ρ, H₁, ⟨rfl, Nat.zero_le _, .refl _, S₁, vs₁, hst, hI.F, hI.φ, q₁⟩⟩
  rintro k s' ⟨j, W', ρ', H', J⟩
  have hkj := J.hk
  have hj := J.hj
  have le' := J.le'
  have S' := J.S'
  have vs' := J.vs'
  have hstj := J.hstj
  have hF := J.hF
  have hφ := J.hφ
  have q' := J.q'
  clear J
  subst hkj
  by_cases hlt : j < xs.length
  · refine hw.item j s' _ _ hlt hstj fun v h' tk hPv hst' hk => ?_
    obtain ⟨v', hv', hr⟩ := hit j v hlt hPv
    have ed : xs.drop j = v' :: xs.drop (j + 1) := by
      rw [List.drop_eq_getElem_cons hlt]
      congr 1
      exact Option.some.inj ((List.getElem?_eq_getElem hlt).symm.trans hv')
    rw [ed, forL_cons] at q'
    have S₂ : St C P own W' H' { s' with heap := h', toks := tk } := S'.keepsBut hk hF hI.P hφ hI.own rfl rfl
    have vs₂ : Vs C P own σ env W' ρ' h' := vs'.keepsBut hK hk hI.P hI.own
    obtain ⟨oI, hoI, hoc⟩ := hex _ _ hst'
    have S₃ := S₂.moreP (a := I) (o := oI) hoI hF hφ hI.own
    refine wpAny_assign_Name ((vs₂.anyP hO).store hK (.inl hO) S₃ hx (hr.mono le') fun s₄ S₄ vs₄ => ?_)
    refine hb env (addP P I oI) own A W' (upd ρ' i v') H' s₄ _ X _ _ hK hO (hA.to fun L h => h.up (addP_le hI.P)) S₄ vs₄ q' (fun W₅ ρ₅ H₅ s₅ fl y le₅ S₅ vs₅ r₅ q₅ => ?_) (fun W₅ ρ₅ H₅ s₅ c e le₅ S₅ vs₅ f hx => (f.lessP (addP_le hI.P)).noted hK hO hA (S₅.lessP (addP_le hI.P)) (vs₅.anyP hO) fun s₆ S₆ vs₆ f₆ => f₆.cameBack hK hO S₆ vs₆ fun s₇ S₇ vs₇ f₇ => hE W₅ ρ₅ H₅ s₇ c e ((le₁.trans le').trans le₅) S₇ vs₇ f₇ hx)
    have hfin : St C P own W₅ H₅ s₅ := S₅.lessP (addP_le hI.P)
    have hI5 : s₅.heap.get? I = some oI := S₅.pinned (addP_at ..) hoc
    have hst5 : Sti (j + 1) s₅.heap := hw.frame (j + 1) h' s₅.heap hst' fun b hb o e => by
      rcases hfp b hb with rfl | ⟨o', e'⟩
      · rw [hoI] at e; cases e; exact hI5
      · have h1 := S₂.fin b o' (le'.F b o' e')
        rw [show ({ s' with heap := h', toks := tk } : Shared).heap.get? b = h'.get? b from rfl, e] at h1; cases h1
        exact S₅.fin b o ((le'.trans le₅).F b o e')
    have hφ5 : I ∉ W₅.φ := fun q => by
      have := S₅.hp.priv I q
      rw [addP_at] at this
      cases this
    cases r₅ with
    | next => exact ⟨xs.length + 1 - (j + 1), by (first | lia | omega), j + 1, W₅, ρ₅, H₅, ⟨rfl, hlt, le'.trans le₅, hfin, vs₅.anyP hO, hst5, S₅.pF I oI (addP_at ..), hφ5, q₅⟩⟩
    | cont => exact ⟨xs.length + 1 - (j + 1), by (first | lia | omega), j + 1, W₅, ρ₅, H₅, ⟨rfl, hlt, le'.trans le₅, hfin, vs₅.anyP hO, hst5, S₅.pF I oI (addP_at ..), hφ5, q₅⟩⟩
    | brk => exact hQ W₅ ρ₅ H₅ s₅ _ _ ((le₁.trans le').trans le₅) hfin (vs₅.anyP hO) .next q₅
    | ret r => exact hQ W₅ ρ₅ H₅ s₅ _ _ ((le₁.trans le').trans le₅) hfin (vs₅.anyP hO) (.ret r) q₅
  · have hjn : j = xs.length := by (first | lia | omega)
    subst hjn
    refine hw.done s' _ _ hstj fun h' tk hk => wpAny_execs_nil ?_
    rw [List.drop_length, forL_nil] at q'
    exact hQ W' ρ' H' _ _ _ (le₁.trans le') (S'.keepsBut hk hF hI.P hφ hI.own rfl rfl) (vs'.keepsBut hK hk hI.P hI.own) .next q'
end
end Mine
namespace Mine
open PySem PyProof.Rows PySem.SeqAt

/-! comprehensions -/
noncomputable def compG (j : Nat) (cond : Option BT) (elt : ET) (ρ : Rho) : List V → List V → Hp → (List V → Hp → Prop) → Prop
  | [], acc, H, Q => Q acc H
  | v :: vs, acc, H, Q => match cond with
    | none => elt (upd ρ j v) H (fun y H1 => Box (compG j cond elt ρ vs (acc ++ [y]) H1 Q)) (fun _ _ => False)
    | some c => c (upd ρ j v) H (fun b H1 => Br (elt (upd ρ j v) H1 (fun y H2 => Box (compG j cond elt ρ vs (acc ++ [y]) H2 Q)) (fun _ _ => False)) (Box (compG j cond elt ρ vs acc H1 Q)) b) (fun _ _ => False)
noncomputable def compGo (j : Nat) (cond : Option BT) (elt : ET) (ρ : Rho) (xs acc : List V) (H : Hp) (Q : List V → Hp → Prop) : Prop := Box (compG j cond elt ρ xs acc H Q)
section
variable {j : Nat} {cond : Option BT} {c : BT} {elt : ET} {ρ : Rho} {v : V} {vs acc : List V} {H : Hp} {Q : List V → Hp → Prop}
theorem compGo_nil : compGo j cond elt ρ [] acc H Q = Q acc H := Box.eq
theorem compGo_none : compGo j none elt ρ (v :: vs) acc H Q = elt (upd ρ j v) H (fun y H1 => compGo j none elt ρ vs (acc ++ [y]) H1 Q) (fun _ _ => False) := Box.eq
theorem compGo_some : compGo j (some c) elt ρ (v :: vs) acc H Q = c (upd ρ j v) H (fun b H1 => Br (elt (upd ρ j v) H1 (fun y H2 => compGo j (some c) elt ρ vs (acc ++ [y]) H2 Q) (fun _ _ => False)) (compGo j (some c) elt ρ vs acc H1 Q) b) (fun _ _ => False) := Box.eq
end
noncomputable def coK (j : Nat) (cond : Option BT) (elt : ET) (ρ : Rho) (Q : List V → Hp → Prop) (xs : List V) (H : Hp) : Prop := xs.length ≤ 1000000 ∧ compGo j cond elt ρ xs [] H Q
noncomputable def compT (j : Nat) (it : IT) (cond : Option BT) (elt : ET) : Rho → Hp → (List V → Hp → Prop) → XP → Prop := fun ρ H Q X => it ρ H (coK j cond elt ρ Q) X
noncomputable def lcomp (j : Nat) (it : IT) (cond : Option BT) (elt : ET) : ET := fun ρ H Q X => compT j it cond elt ρ H (liK Q) X
noncomputable def relab (scope outer : Scope) : Scope := { scope with names := scope.names.map fun (n, k) => if (k == .free && outer.kind == .function && outer.names.lookup n == some .cell) then (n, .cell) else (n, k) }
theorem relabel_eq (scope : Scope) (env : Env) : relabel scope env = relab scope env.scope := rfl
noncomputable def compSc (σ : Sc) (scope : Scope) (x : Str) (j : Nat) : Sc := ⟨relab scope σ.scope, (x, j) :: σ.vars.filter fun v => scope.names.lookup v.1 == some .free⟩

noncomputable def nodupS : List Str → Bool
  | [] => true
  | x :: r => !r.contains x && nodupS r
noncomputable def nodupN : List Nat → Bool
  | [] => true
  | x :: r => !r.contains x && nodupN r
theorem nodupS_spec : ∀ {l : List Str}, nodupS l = true → l.Nodup
  | [], _ => .nil
  | x :: r, h => by
    simp only [nodupS, Bool.and_eq_true, Bool.not_eq_true'] at h
    exact List.nodup_cons.mpr ⟨fun q => (by rw [List.contains_iff_mem.mpr q] at h; exact Bool.noConfusion h.1), nodupS_spec h.2⟩
theorem nodupN_spec : ∀ {l : List Nat}, nodupN l = true → l.Nodup
  | [], _ => .nil
  | x :: r, h => by
    simp only [nodupN, Bool.and_eq_true, Bool.not_eq_true'] at h
    exact List.nodup_cons.mpr ⟨fun q => (by rw [List.contains_iff_mem.mpr q] at h; exact Bool.noConfusion h.1), nodupN_spec h.2⟩

noncomputable def compOK (σ : Sc) (scope : Scope) (x : Str) (j : Nat) : Bool :=
  scope.kind == .function && scope.names.all (fun y => y.2 != .cell) && scope.names.all (fun y => y.2 != .local || scope.names.lookup y.1 == some .local) && scope.names.lookup x == some .local &&
  scope.names.all (fun y => y.2 != .free || (σ.scope.names.lookup y.1 == some .cell && σ.vars.any fun v => v.1 == y.1)) &&
  nodupS ((compSc σ scope x j).vars.map (·.1)) && nodupN ((compSc σ scope x j).vars.map (·.2)) && !(x == ("__debug__" : Str))

theorem relab_lookup_local {scope outer : Scope} {x : Str} (h : scope.names.lookup x = some .local) : (relab scope outer).names.lookup x = some .local :=
  lookup_relabel_local (env := { (default : Env) with scope := outer }) h
theorem relab_lookup_free {outer : Scope} {x : Str} (ho : outer.names.lookup x = some .cell) (hk : outer.kind = .function) : ∀ {names : List (Str × NameKind)}, names.lookup x = some .free →
    (names.map fun (n, k) => if (k == NameKind.free && outer.kind == .function && outer.names.lookup n == some .cell) then (n, NameKind.cell) else (n, k)).lookup x = some .cell
  | [], h => by simp at h
  | (n, k) :: r, h => by
    rw [List.lookup_cons] at h
    show List.lookup x ((if (k == NameKind.free && outer.kind == .function && outer.names.lookup n == some .cell) = true then (n, NameKind.cell) else (n, k)) :: _) = _
    cases hx : x == n with
    | true =>
      rw [hx] at h
      cases h
      have : x = n := by simpa using hx
      subst this
      rw [if_pos (by simp [ho, hk])]
      simp
    | false =>
      rw [hx] at h
      have ih := relab_lookup_free ho hk h
      by_cases hc : (k == NameKind.free && outer.kind == .function && outer.names.lookup n == some .cell) = true
      · rw [if_pos hc, List.lookup_cons, hx]; exact ih
      · rw [if_neg hc, List.lookup_cons, hx]; exact ih

/-! the cells that a comprehension sees -/
noncomputable def closL (look : Str → Option Addr) : List (Str × NameKind) → List (Str × Addr) → List (Str × Addr)
  | [], acc => acc
  | (n, k) :: r, acc => if k == .free then closL look r ((n, (look n).getD 0) :: acc) else closL look r acc
theorem closureFor_go {env : Env} : ∀ (names : List (Str × NameKind)) (acc : List (Str × Addr)), (∀ n, (n, NameKind.free) ∈ names → ∃ c, env.cells.lookup n = some c) →
    (forIn names acc fun (x : Str × NameKind) (cs : List (Str × Addr)) => (match x with | (name, kind) => if kind == .free then (do let a ← cellOf env name; pure (ForInStep.yield ((name, a) :: cs))) else pure (ForInStep.yield cs) : Sem (ForInStep (List (Str × Addr))))) = pure (closL (fun n => env.cells.lookup n) names acc)
  | [], acc, _ => rfl
  | (n, k) :: r, acc, h => by
    rw [List.forIn_cons]
    unfold closL
    have ih := fun acc => closureFor_go r acc fun m hm => h m (List.mem_cons_of_mem _ hm)
    by_cases hk : (k == NameKind.free) = true
    · have e : k = .free := by simpa using hk
      subst e
      obtain ⟨c, hc⟩ := h n List.mem_cons_self
      simp only [beq_self_eq_true, if_true]
      have e2 : cellOf env n = pure c := by unfold cellOf; rw [hc]
      rw [e2, hc]
      simp only [pure_bind, Option.getD_some]
      exact ih _
    · simp only [hk]
      simp only [Bool.false_eq_true, if_false, pure_bind]
      exact ih _
theorem closureFor_eq {scope : Scope} {env : Env} (h : ∀ n, (n, NameKind.free) ∈ scope.names → ∃ c, env.cells.lookup n = some c) : closureFor scope env = pure (closL (fun n => env.cells.lookup n) scope.names []) := by
  have := closureFor_go scope.names [] h
  unfold closureFor
  rw [← this]
  simp only [bind_pure]
theorem closL_lookup {look : Str → Option Addr} {x : Str} : ∀ (names : List (Str × NameKind)) (acc : List (Str × Addr)), (∀ c, acc.lookup x = some c → c = (look x).getD 0) → ((names.lookup x = some .free ∨ (acc.lookup x).isSome = true) → (closL look names acc).lookup x = some ((look x).getD 0))
  | [], acc, ha, h => by
    rcases h with h | h
    · cases h
    · obtain ⟨c, hc⟩ := Option.isSome_iff_exists.mp h
      show acc.lookup x = _
      rw [hc, ha c hc]
  | (n, k) :: r, acc, ha, h => by
    unfold closL
    by_cases hk : (k == NameKind.free) = true
    · rw [if_pos hk]
      refine closL_lookup r _ (fun c hc => ?_) ?_
      · rw [List.lookup_cons] at hc
        cases hx : x == n with
        | true => rw [hx] at hc; cases hc; rw [show x = n by simpa using hx]
        | false => rw [hx] at hc; exact ha c hc
      · cases hx : x == n with
        | true => right; rw [List.lookup_cons, hx]; rfl
        | false =>
          rcases h with h | h
          · rw [List.lookup_cons, hx] at h; exact .inl h
          · right; rw [List.lookup_cons, hx]; exact h
    · rw [if_neg hk]
      refine closL_lookup r acc ha ?_
      rcases h with h | h
      · rw [List.lookup_cons] at h
        cases hx : x == n with
        | true => rw [hx] at h; cases h; simp at hk
        | false => rw [hx] at h; exact .inl h
      · exact .inr h

inductive SimC (C : Cx) (d : Nat) (σ : Sc) : List Expr → Option BT → Prop
  | none : SimC C d σ [] none
  | some {e : Expr} {t : BT} : SimT C d σ e t → SimC C d σ [e] (some t)

section
variable {C : Cx} {d : Nat} {σ : Sc}

/-- how it stands before each turn -/
structure CompI (C : Cx) (P : Fz) (L I D : Addr) (W₁ : Wd) (xs : List V) (Sti : Nat → Heap → Prop) (go : Nat → List V → Hp → Prop) (k : Nat) (s' : Shared) (n : Nat) (W' : Wd) (H' : Hp) (ys : List V) (items : Array Value) (m : Str → Option Value) : Prop where
  hk : k = xs.length + 1 - n
  hn : n ≤ xs.length
  le' : W₁.Le W'
  S' : St C P [L] W' H' s'
  hns : s'.heap.Ns L m
  hstn : Sti n s'.heap
  hF : W'.F I = none
  hφ : I ∉ W'.φ
  hDp : s'.heap.PlainList D items
  hDF : W'.F D = none
  hDφ : D ∉ W'.φ
  hr : RepL C W' ys items.toList
  hyl : ys.length ≤ n
  q : go n ys H'
theorem comp_core {scope : Scope} {x : Str} {px pos fpos : Pos} {elt iter : Expr} {ifs : List Expr} {j : Nat} {it : IT} {te : ET} {cond : Option BT}
    (hI : SimI C d σ iter it) (he : SimE C d (compSc σ scope x j) elt te) (hc : SimC C d (compSc σ scope x j) ifs cond) (hok : compOK σ scope x j = true) (hs : noSet iter = true)
    {env : Env} {P : Fz} {own : List Addr} {A : Around} {W : Wd} {ρ : Rho} {H : Hp} {s : Shared} {Q : List V → Hp → Prop} {X : XP} {QQ : Value → Shared → Prop} {E : Value → Shared → Prop} {use : Option (Value → Sem Unit)}
    (hK : EnvOK σ own env) (hA : AOK d A P own) (S : St C P own W H s) (vs : Vs C P own σ env W ρ s.heap) (ht : compT j it cond te ρ H Q X)
    (hQ : ∀ W' H' s' ys D items L m, W.Le W' → St C P own W' H' s' → Vs C P own σ env W' ρ s'.heap → s'.heap.PlainList D items → RepL C W' ys items.toList → Q ys H' →
      W'.F D = none → P D = none → D ∉ W'.φ → D ∉ own → s'.heap.Ns L m → W'.F L = none → P L = none → L ∉ W'.φ → L ∉ own → L ≠ D → compPost (model C.prog C.w) A E use QQ (.ref D) L (.ok .next) s')
    (hE : ∀ W' H' s' c e, W.Le W' → St C P own W' H' s' → Vs C P own σ env W' ρ s'.heap → Fly C P own W' c e s' → X c H' → E e s') :
    wpAny (model C.prog C.w) A (comprehension (.ListComp elt [⟨.Name x px, iter, ifs, 0⟩] scope pos) scope env fpos (newList []) false (eval iter env) use) QQ E s := by
  simp only [compOK, Bool.and_eq_true, beq_iff_eq, List.all_eq_true, bne_iff_ne, ne_eq, Bool.or_eq_true, Bool.not_eq_true'] at hok
  obtain ⟨⟨⟨⟨⟨⟨⟨hkind, hnocell⟩, hlocs⟩, hx⟩, hfree⟩, hnd1⟩, hnd2⟩, hdbg⟩ := hok
  have hcell : ∀ n, (n, NameKind.free) ∈ scope.names → ∃ c, env.cells.lookup n = some c := fun n hn => by
    have := (hfree _ hn).resolve_left (by simp)
    obtain ⟨h1, h2⟩ := this
    obtain ⟨v, hv, e⟩ := List.any_eq_true.mp h2
    have e' : v.1 = n := by simpa using e
    obtain ⟨c, _, hc, _⟩ := vs.cell v.1 v.2 hv (by rw [e']; exact h1)
    exact ⟨c, e' ▸ hc⟩
  have hclos := closureFor_eq hcell
  generalize hcl : closL (fun n => env.cells.lookup n) scope.names [] = cl at hclos
  refine wpAny_comprehension_free (use := use) rfl (fun _ => folded_noSet hs) hclos hkind (fun y hy hl => ?_) (hI env P own A W ρ H s _ X _ E hK hA S vs ht (fun W₁ H₁ s₂ xs I le₁ S₂ vs₂ hIt q₁ => ?_) hE)
  · exact (hlocs y hy).resolve_left (fun q => q hl)
  obtain ⟨hlen, q₁⟩ := q₁
  obtain ⟨fp, Pi, Sti, hw, hst, hit, hfp, hex⟩ := hIt.walk
  obtain ⟨oI₀, hoI₀, _⟩ := hex _ _ hst
  refine wpAny_newObj_type (wpAny_newFunctionEnv (fun y hy => hnocell y hy) (by intro y hy; simp at hy) (fun h₁ hns₁ hsb₁ => ?_) hkind)
  dsimp only at hns₁ hsb₁ ⊢
  -- addresses
  have hD0 : s₂.heap.get? s₂.heap.objs.size = none := Heap.none_size _
  generalize hDd : s₂.heap.objs.size = D at *
  generalize hH2 : s₂.heap.push { cls := .type "list", data := .seq ([] : List Value).toArray } = H2 at hns₁ hsb₁ ⊢
  generalize hLd : H2.objs.size = L at *
  have hLD : @Eq Nat L (D + 1) := by rw [← hLd, ← hH2, Heap.size_push, hDd]
  have hDL : @Ne Nat D L := by (first | lia | omega)
  have hsz : @Eq Nat s₂.heap.objs.size D := hDd
  have hL0 : s₂.heap.get? L = none := by
    cases q : s₂.heap.get? L with
    | none => rfl
    | some o =>
      have hq : @LT.lt Nat _ L s₂.heap.objs.size := Heap.lt_size q
      exfalso; (first | lia | omega)
  have old : ∀ b o, s₂.heap.get? b = some o → h₁.get? b = some o := fun b o e => by
    have hb : @LT.lt Nat _ b s₂.heap.objs.size := Heap.lt_size e
    have hbL : @Ne Nat b L := by (first | lia | omega)
    exact hsb₁.extBut b o hbL (Heap.get?_push_of_some _ (hH2 ▸ Heap.get?_push_of_some _ e))
  have hD1 : h₁.PlainList D #[] := ⟨0, hsb₁.extBut _ _ hDL (Heap.get?_push_of_some _ (by rw [← hH2, ← hDd]; exact Heap.get?_push_size _ rfl))⟩
  obtain ⟨fD1, fD2, fD3, fD4⟩ := S₂.fresh hD0
  obtain ⟨fL1, fL2, fL3, fL4⟩ := S₂.fresh hL0
  have hID : I ≠ D := fun q => by rw [q, hD0] at hoI₀; cases hoI₀
  have hIL : I ≠ L := fun q => by rw [q, hL0] at hoI₀; cases hoI₀
  -- the outer frame is laid aside
  have hP1 : ∀ a, a ∉ own → P a = none → aside P own s₂.heap a = none := fun a h1 h2 => by rw [aside_out h1]; exact h2
  have S₃ : St C (aside P own s₂.heap) [L] W₁ H₁ { s₂ with heap := h₁, toks := s₂.toks + ([] : List (Str × Value)).length } :=
    (S₂.aside.keeps (s' := { s₂ with heap := h₁, toks := s₂.toks + ([] : List (Str × Value)).length }) old rfl rfl).moreOwn (let ⟨o, _, _, e, f, _⟩ := hns₁; ⟨o, e, fun _ q => nomatch (f.symm.trans q)⟩) fL1 (hP1 L fL4 fL2) fL3
  -- the names in the comprehension
  have hcenv : ∀ (W' : Wd) (h' : Heap) (m : Str → Option Value) (P2 : Fz), W₁.Le W' → (∀ a, (a ∈ own ∨ ∃ o, P a = some o) → ∀ o, s₂.heap.get? a = some o → (∃ o', h'.get? a = some o' ∧ o'.data = o.data) ∧ ∃ o', P2 a = some o') → h'.Ns L m →
      Vs C P2 [L] (compSc σ scope x j) (compEnvC scope cl L env) W' (fun i => if i = j then none else ρ i) h' := by
    intro W' h' m P2 le' hk hn
    refine ⟨⟨m, hn, fun y i hy hl v hv => ?_⟩, fun y i hy hl => ?_⟩
    · rcases List.mem_cons.mp hy with e | hy
      · cases e; simp at hv
      · exfalso
        obtain ⟨hy1, hy2⟩ := List.mem_filter.mp hy
        have hy2' : scope.names.lookup y = some .free := by simpa using hy2
        have hc' : σ.scope.names.lookup y = some .cell := by
          have := (hfree _ (mem_of_lookup hy2')).resolve_left (by simp)
          exact this.1
        have := relab_lookup_free (outer := σ.scope) hc' hK.kind hy2'
        have hl' : (relab scope σ.scope).names.lookup y = some .local := hl
        rw [show (relab scope σ.scope).names.lookup y = some .cell from this] at hl'
        cases hl'
    · rcases List.mem_cons.mp hy with e | hy
      · cases e
        have hl' : (relab scope σ.scope).names.lookup x = some .cell := hl
        rw [relab_lookup_local hx] at hl'; cases hl'
      · obtain ⟨hy1, hy2⟩ := List.mem_filter.mp hy
        have hy2' : scope.names.lookup y = some .free := by simpa using hy2
        have hc' : σ.scope.names.lookup y = some .cell := by
          have := (hfree _ (mem_of_lookup hy2')).resolve_left (by simp)
          exact this.1
        obtain ⟨c, cv, g1, g2, g3, g4, g5⟩ := vs₂.cell y i hy1 hc'
        obtain ⟨o, go, gd⟩ := g2
        obtain ⟨⟨o', k1, k1'⟩, k2⟩ := hk c g3 o go
        refine ⟨c, cv, ?_, ⟨o', k1, k1'.trans gd⟩, .inr k2, ?_, fun v hv => ?_⟩
        · show cl.lookup y = some c
          rw [← hcl, closL_lookup scope.names [] (fun c h => by cases h) (.inl hy2'), g1]; rfl
        · show c ≠ L
          intro q; rw [q, hL0] at go; cases go
        · by_cases q : i = j
          · simp [q] at hv
          · simp only [q, if_false] at hv
            obtain ⟨z, e, r⟩ := g5 v hv
            exact ⟨z, e, r.mono le'⟩
  have hEnv : EnvOK (compSc σ scope x j) [L] (compEnvC scope cl L env) :=
    ⟨by show relabel scope env = _; rw [relabel_eq, hK.scope]; rfl, hkind, hK.globals, hK.builtins, List.mem_cons_self, nodupS_spec hnd1, nodupN_spec hnd2⟩
  have hhas : (compSc σ scope x j).has x j = true := by
    simp only [Sc.has, Bool.and_eq_true, Bool.or_eq_true, beq_iff_eq, Bool.not_eq_true', List.contains_iff_mem]
    exact ⟨⟨List.mem_cons_self, .inl (relab_lookup_local hx)⟩, hdbg⟩
  have hupd : ∀ v, upd (fun i => if i = j then none else ρ i) j v = upd ρ j v := fun v => by
    funext i; unfold upd; split <;> simp_all
  -- the loop
  have loop : codeAny (model C.prog C.w) A (.compLoop (.ListComp elt [⟨.Name x px, iter, ifs, 0⟩] scope pos) 0 (.ref I) (.ref D) (compEnvC scope cl L env)) (compPost (model C.prog C.w) A E use QQ (.ref D) L)
      { s₂ with heap := h₁, toks := s₂.toks + ([] : List (Str × Value)).length } := by
    refine codeAny_compLoop_tests (fun k s' => ∃ n W' H' ys items m, CompI C (aside P own s₂.heap) L I D W₁ xs Sti (fun n ys H' => compGo j cond te ρ (xs.drop n) ys H' Q) k s' n W' H' ys items m) ?_ (xs.length + 1)
      ⟨0, W₁, H₁, [], #[], _, ⟨rfl, Nat.zero_le _, .refl _, S₃, hns₁, hw.frame 0 _ _ hst fun b _ o e => old b o e, hIt.F, hIt.φ, hD1, fD1, fD3, .nil, Nat.le_refl _, q₁⟩⟩
    rintro k s' ⟨n, W', H', ys, items, m, J⟩
    have hkn := J.hk
    have hn := J.hn
    have le' := J.le'
    have S' := J.S'
    have hns := J.hns
    have hstn := J.hstn
    have hF := J.hF
    have hφ := J.hφ
    have hDp := J.hDp
    have hDF := J.hDF
    have hDφ := J.hDφ
    have hr := J.hr
    have hyl := J.hyl
    have q' := J.q
    clear J
    subst hkn
    by_cases hlt : n < xs.length
    · refine hw.item n s' _ _ hlt hstn fun v h' tk hPv hst' hk => ?_
      obtain ⟨v', hv', hrv⟩ := hit n v hlt hPv
      have ed : xs.drop n = v' :: xs.drop (n + 1) := by
        rw [List.drop_eq_getElem_cons hlt]
        congr 1
        exact Option.some.inj ((List.getElem?_eq_getElem hlt).symm.trans hv')
      rw [ed] at q'
      have S₄ : St C (aside P own s₂.heap) [L] W' H' { s' with heap := h', toks := tk } := S'.keepsBut hk hF (hP1 I hIt.own hIt.P) hφ (by simpa using hIL) rfl rfl
      have hDp' : h'.PlainList D items := hDp.at fun o e => hk D o (by simpa using Ne.symm hID) e
      obtain ⟨nD, hoD⟩ := hDp'
      obtain ⟨oI, hoI, hoc⟩ := hex _ _ hst'
      have S₅ := (S₄.moreP (a := I) (o := oI) hoI hF hφ (by simpa using hIL)).moreP (a := D) (o := { cls := .type "list", data := .seq items nD }) hoD hDF hDφ (by simpa using hDL)
      have hns' : h'.Ns L m := hns.at' fun o e => hk L o (by simpa using Ne.symm hIL) e
      have hP2 : ∀ a o, aside P own s₂.heap a = some o → addP (addP (aside P own s₂.heap) I oI) D { cls := .type "list", data := .seq items nD } a = some o := fun a o e =>
        addP_le (by have : D ≠ I := Ne.symm hID; simpa [addP, this] using hP1 D fD4 fD2) a o (addP_le (hP1 I hIt.own hIt.P) a o e)
      have hA' : AOK d A (addP (addP (aside P own s₂.heap) I oI) D { cls := .type "list", data := .seq items nD }) [L] := hA.to fun L h => (S₂.frA h).imp nofun fun ⟨o, e, r⟩ => ⟨o, hP2 L o e, r⟩
      have vs₅ := hcenv W' h' m (addP (addP (aside P own s₂.heap) I oI) D { cls := .type "list", data := .seq items nD }) le' (fun a ha o e => by
        obtain ⟨oa, ea, da⟩ : ∃ oa, aside P own s₂.heap a = some oa ∧ oa.data = o.data := by
          by_cases q : a ∈ own
          · exact ⟨soft o, by rw [aside_in q, e]; rfl, soft_data o⟩
          · rw [aside_out q]
            rcases ha with ha | ⟨o', e'⟩
            · exact absurd ha q
            · obtain ⟨o₁, h1, p1⟩ := S₂.pin a o' e'
              rw [e] at h1; cases h1
              exact ⟨o', e', p1.data.symm⟩
        obtain ⟨o₂, h2, p2⟩ := S₄.pin a oa ea
        exact ⟨⟨o₂, h2, p2.data.trans da⟩, oa, hP2 a oa ea⟩) hns'
      refine wpAny_assign_Name (vs₅.store hEnv (.inr (relab_lookup_local hx)) S₅ hhas (hrv.mono le') fun s₆ S₆ vs₆ => ?_)
      rw [hupd] at vs₆
      -- behind the element
      have behind : ∀ W₇ H₇ s₇ y z, W'.Le W₇ → St C (addP (addP (aside P own s₂.heap) I oI) D { cls := .type "list", data := .seq items nD }) [L] W₇ H₇ s₇ → (∃ m, s₇.heap.Ns L m) → Rep C W₇ y z → compGo j cond te ρ (xs.drop (n + 1)) (ys ++ [y]) H₇ Q →
          wpAny (model C.prog C.w) A (call (.builtin "list.append") [.ref D, z]) (fun _ s₈ => ∃ k', k' < xs.length + 1 - n ∧ ∃ n W' H' ys items m, CompI C (aside P own s₂.heap) L I D W₁ xs Sti (fun n ys H' => compGo j cond te ρ (xs.drop n) ys H' Q) k' s₈ n W' H' ys items m)
            (notedBy (model C.prog C.w) A (compEnvC scope cl L env) fun e s' => compPost (model C.prog C.w) A E use QQ (.ref D) L (.error e) s') s₇ := by
        intro W₇ H₇ s₇ y z le₇ S₇ hn₇ ry q₇
        have hD7 : s₇.heap.get? D = some { cls := .type "list", data := .seq items nD } := S₇.pinned (addP_at ..) (fun q => nomatch (q : Value.type _ = Value.builtin _))
        have hI7 : s₇.heap.get? I = some oI := S₇.pinned (by simp [addP, hID]) hoc
        have hF7 : W₇.F D = none := S₇.pF D _ (addP_at ..)
        have hF7' : W₇.F I = none := S₇.pF I oI (by simp [addP, hID])
        have hφ7 : D ∉ W₇.φ := fun q => by have := S₇.hp.priv D q; rw [addP_at] at this; cases this
        have hφ7' : I ∉ W₇.φ := fun q => by have := S₇.hp.priv I q; simp [addP, hID] at this
        have hlen' : items.size ≤ sizeLine := by
          have h1 := hr.length
          have h2 : items.toList.length = items.size := Array.length_toList
          have : (1000000 : Nat) ≤ sizeLine := by decide
          (first | lia | omega)
        refine wpAny_list_append_plain ⟨nD, hD7⟩ (fun h₈ hp₈ hsb₈ => ?_) hlen'
        obtain ⟨m₇, hm₇⟩ := hn₇
        refine ⟨xs.length + 1 - (n + 1), by (first | lia | omega), n + 1, W₇, H₇, ys ++ [y], items.push z, m₇, ⟨rfl, hlt, le'.trans le₇, ?_, hm₇.sameBut hsb₈ (Ne.symm hDL), ?_, hF7', hφ7', hp₈, hF7, hφ7, ?_, by simp; (first | lia | omega), q₇⟩⟩
        · exact (S₇.lessP hP2).keepsBut (I := D) (fun b o hb e => (hsb₈.2 b (by simpa using hb)).trans e) hF7 (hP1 D fD4 fD2) hφ7 (by simpa using hDL) rfl rfl
        · refine hw.frame (n + 1) h' _ hst' fun b hb o e => ?_
          rcases hfp b hb with rfl | ⟨o', e'⟩
          · rw [hoI] at e; cases e
            exact (hsb₈.2 b hID).trans hI7
          · have h1 := S₄.fin b o' (le'.F b o' e')
            rw [show ({ s' with heap := h', toks := tk } : Shared).heap.get? b = h'.get? b from rfl, e] at h1; cases h1
            have h2 := (le'.trans le₇).F b o e'
            refine (hsb₈.2 b fun q => ?_).trans (S₇.fin b o h2)
            rw [q, hF7] at h2; cases h2
        · rw [Array.toList_push]
          exact (hr.mono le₇).append (.cons ry .nil)
      cases hc with
      | none =>
        rw [compGo_none] at q'
        refine wpAny_pure ?_
        rw [if_pos rfl]
        refine he _ _ _ A W' (upd ρ j v') H' s₆ _ _ _ _ hEnv hA' S₆ vs₆ q' (fun W₇ H₇ s₇ y z le₇ S₇ vs₇ ry q₇ => ?_) (fun _ _ _ _ _ _ _ _ _ f => f.elim)
        exact behind W₇ H₇ s₇ y z le₇ S₇ (let ⟨m, h, _⟩ := vs₇.ns; ⟨m, h⟩) ry q₇
      | @some e t htest =>
        rw [compGo_some] at q'
        rw [List.forIn_cons]
        simp only [if_true]
        refine wpAny_bind (wpAny_bind (htest _ _ _ A W' (upd ρ j v') H' s₆ _ _ _ _ hEnv hA' S₆ vs₆ q' (fun W₇ H₇ s₇ b le₇ S₇ vs₇ q₇ => ?_) (fun _ _ _ _ _ _ _ _ _ f => f.elim)))
        refine wpAny_pure ?_
        dsimp only
        rw [List.forIn_nil]
        refine wpAny_pure ?_
        cases b with
        | true =>
          rw [if_pos rfl]
          have q₇ := q₇.t rfl
          refine he _ _ _ A W₇ (upd ρ j v') H₇ s₇ _ _ _ _ hEnv hA' S₇ vs₇ q₇ (fun W₈ H₈ s₈ y z le₈ S₈ vs₈ ry q₈ => ?_) (fun _ _ _ _ _ _ _ _ _ f => f.elim)
          exact behind W₈ H₈ s₈ y z (le₇.trans le₈) S₈ (let ⟨m, h, _⟩ := vs₈.ns; ⟨m, h⟩) ry q₈
        | false =>
          rw [if_neg (by simp)]
          have q₇ := q₇.f rfl
          have hD7 : s₇.heap.get? D = some { cls := .type "list", data := .seq items nD } := S₇.pinned (addP_at ..) (fun q => nomatch (q : Value.type _ = Value.builtin _))
          have hI7 : s₇.heap.get? I = some oI := S₇.pinned (by simp [addP, hID]) hoc
          have hF7 : W₇.F D = none := S₇.pF D _ (addP_at ..)
          have hF7' : W₇.F I = none := S₇.pF I oI (by simp [addP, hID])
          have hφ7 : D ∉ W₇.φ := fun q => by have := S₇.hp.priv D q; rw [addP_at] at this; cases this
          have hφ7' : I ∉ W₇.φ := fun q => by have := S₇.hp.priv I q; simp [addP, hID] at this
          obtain ⟨m₇, hm₇, _⟩ := vs₇.ns
          refine ⟨xs.length + 1 - (n + 1), by (first | lia | omega), n + 1, W₇, H₇, ys, items, m₇, ⟨rfl, hlt, le'.trans le₇, S₇.lessP hP2, hm₇, ?_, hF7', hφ7', ⟨nD, hD7⟩, hF7, hφ7, hr.mono le₇, by (first | lia | omega), q₇⟩⟩
          refine hw.frame (n + 1) h' _ hst' fun b hb o e => ?_
          rcases hfp b hb with rfl | ⟨o', e'⟩
          · rw [hoI] at e; cases e
            exact hI7
          · have h1 := S₄.fin b o' (le'.F b o' e')
            rw [show ({ s' with heap := h', toks := tk } : Shared).heap.get? b = h'.get? b from rfl, e] at h1; cases h1
            exact S₇.fin b o ((le'.trans le₇).F b o e')
    · have hjn : n = xs.length := by (first | lia | omega)
      subst hjn
      refine hw.done s' _ _ hstn fun h' tk hk => ?_
      rw [List.drop_length, compGo_nil] at q'
      have S₄ : St C (aside P own s₂.heap) [L] W' H' { s' with heap := h', toks := tk } := S'.keepsBut hk hF (hP1 I hIt.own hIt.P) hφ (by simpa using hIL) rfl rfl
      have S₅ : St C (aside P own s₂.heap) [] W' H' { s' with heap := h', toks := tk } := S₄.lessOwn (by simp)
      have S₆ := S₂.back S₅
      have vs₆ : Vs C P own σ env W' ρ h' := (vs₂.mono le').at_ hK fun a ha o e => S₂.back_at S₅ ha e
      exact hQ W' H' _ ys D items L m (le₁.trans le') S₆ vs₆ (hDp.at fun o e => hk D o (by simpa using Ne.symm hID) e) hr q' hDF fD2 hDφ fD4 (hns.at' fun o e => hk L o (by simpa using Ne.symm hIL) e)
        (S₄.ownF L List.mem_cons_self) fL2 (S₄.ownφ L List.mem_cons_self) fL4 (Ne.symm hDL)
  exact codeAny_compStart_list loop (hw.self 0 _ _ _ (hw.frame 0 _ _ hst fun b _ o e => old b o e) loop)

theorem sim_lcomp {scope : Scope} {x : Str} {px pos : Pos} {elt iter : Expr} {ifs : List Expr} {j : Nat} {it : IT} {te : ET} {cond : Option BT}
    (hI : SimI C d σ iter it) (he : SimE C d (compSc σ scope x j) elt te) (hc : SimC C d (compSc σ scope x j) ifs cond) (hok : compOK σ scope x j = true) (hs : noSet iter = true) :
    SimE C d σ (.ListComp elt [⟨.Name x px, iter, ifs, 0⟩] scope pos) (lcomp j it cond te) := by
  intro env P own A W ρ H s Q X QQ E hK hA S vs ht hQ hE
  rw [eval_ListComp]
  refine comp_core hI he hc hok hs hK hA S vs ht (fun W' H' s' ys D items L m le S' vs' hD hr q a1 a2 a3 a4 hn b1 b2 b3 b4 hLD => ⟨m, hn, fun h' hsb => ?_⟩) hE
  have S₁ : St C P own W' H' { s' with heap := h' } := S'.keepsBut (I := L) (fun b o hb e => (hsb.2 b (by simpa using hb)).trans e) b1 b2 b3 b4 rfl rfl
  have vs₁ : Vs C P own σ env W' ρ h' := vs'.keepsBut hK (I := L) (fun b o hb e => (hsb.2 b (by simpa using hb)).trans e) b2 b4
  obtain ⟨n, hD⟩ := hD
  have hD' : h'.get? D = some { cls := .type "list", data := .seq items n } := (hsb.2 D (Ne.symm hLD)).trans hD
  obtain ⟨le', S₂⟩ := S₁.takeF hD' a1 a2 a3 a4
  exact hQ _ H' _ _ _ (le.trans le') S₂ (vs₁.mono le') (.lst (Wd.addF_at ..) rfl rfl (hr.mono le')) q
end
end Mine
namespace Mine
open PySem PyProof.Rows PySem.SeqAt

section
variable {C : Cx} {d : Nat} {σ : Sc}

/-! x = [..for..] -/
/-! methods -/
noncomputable def plainBase : Expr → Bool
  | .Call .. => false
  | _ => true
theorem eval_method {o : Expr} {name : Str} {apos pos : Pos} {args : List Expr} {env : Env} (hb : plainBase o = true) (hs : noStar args = true) (hl : args.length < 30) (hp : (apos.endLine == pos.line) = true) :
    eval (.Call (.Attribute o name apos) args [] pos) env = (do
      let ov ← eval o env
      standAt apos.atName
      let (f, first) ← holding [ov] (getMethod ov name (do return (← importBound o env).getD true))
      callWith pos f first (backTo pos (starEach args env)) []) := by
  have e : eval (.Call (.Attribute o name apos) args [] pos) env = (do
    let ov ← attributeBase o name env (eval o env)
    standAt apos.atName
    methodCall o name apos pos env ov (args.length + 0) (backTo pos (starEach args env)) []) := rfl
  have e1 : attributeBase o name env (eval o env) = eval o env := by cases o <;> first | rfl | cases hb
  have e2 : methodCallForm (args.length + 0) (backTo pos (starEach args env)) [] = true := by
    rw [backTo_plain hs]
    unfold methodCallForm
    simp
    (first | lia | omega)
  rw [e, e1]
  congr 1
  funext ov
  congr 1
  funext _
  unfold methodCall
  rw [e2]
  simp only [calleeOf, methodCallPos, hp, Bool.not_true, Bool.false_or, if_true]
  rfl

theorem interactive_function {env : Env} (h : env.scope.kind = .function) : interactive env = false := by
  unfold interactive; rw [h]; rfl

/-! xs[i] = v -/
/-! ''.join(xs) -/
/-! {'a': x, ..} -/
end
end Mine
namespace Mine
open PySem PyProof.Rows PySem.SeqAt PySem.Calls

/-! a def of the text, called -/
section
variable {C : Cx}

noncomputable def HasDef (C : Cx) (r : DefRec) : Prop := ∃ a o pm code doc, C.mg r.name = some (.ref a) ∧ C.adr r.name = some a ∧ C.base.get? a = some o ∧ o.data = .func (docDef r.name r.params r.body r.scope pm code doc) ∧ C.base.CodeRec code r.name
/-- a function of the text: a def, or a method under its long name -/
noncomputable def Fun (C : Cx) (q : Str) (r : DefRec) : Prop := ∃ a o pm code doc, C.adr q = some a ∧ C.base.get? a = some o ∧ o.data = .func (methDef r.name q r.params r.body r.scope pm code doc) ∧ C.base.CodeRec code q
theorem HasDef.fn {r : DefRec} (h : HasDef C r) {q : Str} (e : r.name = q) : Fun C q r := by
  subst e
  obtain ⟨a, o, pm, code, doc, _, h0, h1, h2, h3⟩ := h
  exact ⟨a, o, pm, code, doc, h0, h1, h2, h3⟩

theorem cellsFrom_has {x : Str} : ∀ (names : List (Str × NameKind)) (n : Nat) (acc : List (Str × Addr)), ((acc.lookup x).isSome = true ∨ (x, NameKind.cell) ∈ names) → ((cellsFrom n names acc).lookup x).isSome = true
  | [], n, acc, h => h.elim id fun q => (nomatch q)
  | (y, k) :: r, n, acc, h => by
    unfold cellsFrom
    split
    · rename_i hk
      refine cellsFrom_has r _ _ ?_
      by_cases q : x = y
      · exact .inl (by simp [List.lookup_cons, q])
      · rcases h with h | h
        · refine .inl ?_
          rw [List.lookup_cons]
          have : (x == y) = false := by simpa using q
          rw [this]; exact h
        · rcases List.mem_cons.mp h with e | h
          · cases e; exact absurd rfl q
          · exact .inr h
    · rename_i hk
      refine cellsFrom_has r _ _ ?_
      rcases h with h | h
      · exact .inl h
      · rcases List.mem_cons.mp h with e | h
        · cases e; exact absurd rfl hk
        · exact .inr h

theorem bindL_other {kd : Str → Option NameKind} {x : Str} : ∀ (bs : List (Str × Value)) (m : Str → Option Value), x ∉ bs.map (·.1) → bindL kd bs m x = m x
  | [], _, _ => rfl
  | (n, v) :: r, m, h => by
    simp only [List.map_cons, List.mem_cons, not_or] at h
    unfold bindL
    rw [bindL_other r _ h.2]
    split
    · simp [h.1]
    · rfl
theorem bindC_other {kd : Str → Option NameKind} {x : Str} : ∀ (bs : List (Str × Value)) (m : Str → Option Value), x ∉ bs.map (·.1) → bindC kd bs m x = m x
  | [], _, _ => rfl
  | (n, v) :: r, m, h => by
    simp only [List.map_cons, List.mem_cons, not_or] at h
    unfold bindC
    rw [bindC_other r _ h.2]
    split
    · rfl
    · simp [h.1]
theorem bindL_at {kd : Str → Option NameKind} {x : Str} (hx : kd x = some .local) : ∀ (ps : List Str) (xs : List Value) (m : Str → Option Value) (i : Nat), ps.Nodup → ps[i]? = some x → ∀ y, xs[i]? = some y → bindL kd (ps.zip xs) m x = some y
  | [], _, _, _, _, h, _, _ => by simp at h
  | _ :: _, [], _, _, _, _, _, h => by simp at h
  | p :: ps, z :: xs, m, 0, hn, h, y, hy => by
    simp at h hy; subst h; subst hy
    show bindL kd (ps.zip xs) _ p = _
    have hnp := (List.nodup_cons.mp hn).1
    rw [bindL_other _ _ fun q => hnp ?_, if_pos hx]
    · simp
    · obtain ⟨⟨a, b⟩, hm, e⟩ := List.mem_map.mp q
      have := (List.of_mem_zip hm).1
      simp at e; rwa [e] at this
  | p :: ps, z :: xs, m, i + 1, hn, h, y, hy => by
    show bindL kd (ps.zip xs) _ x = _
    exact bindL_at hx ps xs _ i (List.nodup_cons.mp hn).2 (by simpa using h) y (by simpa using hy)
theorem bindC_at {kd : Str → Option NameKind} {x : Str} (hx : kd x = some .cell) : ∀ (ps : List Str) (xs : List Value) (m : Str → Option Value) (i : Nat), ps.Nodup → ps[i]? = some x → ∀ y, xs[i]? = some y → bindC kd (ps.zip xs) m x = some y
  | [], _, _, _, _, h, _, _ => by simp at h
  | _ :: _, [], _, _, _, _, _, h => by simp at h
  | p :: ps, z :: xs, m, 0, hn, h, y, hy => by
    simp at h hy; subst h; subst hy
    show bindC kd (ps.zip xs) _ p = _
    have hnp := (List.nodup_cons.mp hn).1
    rw [bindC_other _ _ fun q => hnp ?_, if_neg (by rw [hx]; decide)]
    · simp
    · obtain ⟨⟨a, b⟩, hm, e⟩ := List.mem_map.mp q
      have := (List.of_mem_zip hm).1
      simp at e; rwa [e] at this
  | p :: ps, z :: xs, m, i + 1, hn, h, y, hy => by
    show bindC kd (ps.zip xs) _ x = _
    exact bindC_at hx ps xs _ i (List.nodup_cons.mp hn).2 (by simpa using h) y (by simpa using hy)

/-- what can be read off the def, as a test -/
noncomputable def defOK (r : DefRec) (vars : List (Str × Nat)) (ps : List Str) : Bool :=
  r.scope.kind == .function && !r.scope.isCoroutine && !r.scope.isGenerator && decide (ps.Nodup) && decide ((vars.map (·.1)).Nodup) && decide ((vars.map (·.2)).Nodup) &&
  (ps.all fun x => r.scope.names.lookup x == some .local || (r.scope.names.lookup x == some .cell && r.scope.names.contains (x, NameKind.cell))) &&
  (vars.all fun v => (decide (ps.length ≤ v.2) || ps[v.2]? == some v.1) && (r.scope.names.lookup v.1 != some .cell || r.scope.names.contains (v.1, NameKind.cell)))

noncomputable def retV : Fl → V
  | .ret v => v
  | _ => .none

theorem St.ownAll {P : Fz} {W : Wd} {H : Hp} {s s' : Shared} {own : List Addr} (S : St C P [] W H s) (hk : ∀ b o, s.heap.get? b = some o → s'.heap.get? b = some o) (hg : s'.gens = s.gens) (ho : s'.os = s.os)
    (hn : ∀ a ∈ own, s.heap.get? a = none) (he : ∀ a ∈ own, ∃ o, s'.heap.get? a = some o ∧ NF o) : St C P own W H s' :=
  let S' := S.keeps hk hg ho
  { base := S'.base, fin := S'.fin, pin := S'.pin, pF := S'.pF, hp := S'.hp, gens := S'.gens, os := S'.os,
    ownF := fun a ha => (S.fresh (hn a ha)).1, ownP := fun a ha => (S.fresh (hn a ha)).2.1, ownφ := fun a ha => (S.fresh (hn a ha)).2.2.1, ownEx := he }

theorem none_of_le {h : Heap} {a : Addr} (ha : h.objs.size ≤ a) : h.get? a = none := by
  cases q : h.get? a with
  | none => rfl
  | some o => exact absurd (Heap.lt_size q) (Nat.not_lt.mpr ha)

theorem call_def {d : Nat} {q : Str} {r : DefRec} {vars : List (Str × Nat)} {ps : List Str} {t : ST} {vs : List V} {H : Hp} {Q : V → Hp → Prop} {X : XP} (hC : CxOK C) (hok : defOK r vars ps = true)
    (hbind : ∀ pm code doc (xs : List Value), xs.length = ps.length → bindArgs (methDef r.name q r.params r.body r.scope pm code doc) ⟨xs, []⟩ = pure (ps.zip xs))
    (hsim : SimSs C d ⟨r.scope, vars⟩ r.body t) (hlen : vs.length = ps.length) (ht : t (fun i => vs[i]?) H (fun fl _ H' => Q (retV fl) H') X)
    {a : Addr} {o : Obj} {pm code doc : Value} (ho : C.base.get? a = some o) (hd : o.data = .func (methDef r.name q r.params r.body r.scope pm code doc)) (hcd : C.base.CodeRec code q)
    {P : Fz} {W : Wd} {s : Shared} {A : Around} {xs : List Value} {QQ : Value → Shared → Prop} {E : Value → Shared → Prop} (hA : AOC (d + 1) A P) (S : St C P [] W H s) (hr : RepL C W vs xs)
    (hQ : ∀ W' H' s' v x, W.Le W' → St C P [] W' H' s' → Rep C W' v x → Q v H' → QQ x s')
    (hE : ∀ W' H' s' c e, W.Le W' → St C P [] W' H' s' → Fly C P [] W' c e s' → X c H' → E e s') : wpAny (model C.prog C.w) A (call (.ref a) xs) QQ E s := by
  simp only [defOK, Bool.and_eq_true, beq_iff_eq, Bool.not_eq_true', decide_eq_true_eq, List.all_eq_true, Bool.or_eq_true, List.contains_iff_mem, bne_iff_ne] at hok
  obtain ⟨⟨⟨⟨⟨⟨⟨k1, k2⟩, k3⟩, k4⟩, k5⟩, k6⟩, k7⟩, k8⟩ := hok
  have hxl : xs.length = ps.length := hr.length ▸ hlen
  have hcell : ∀ x, r.scope.names.contains (x, NameKind.cell) = true → ((cellsFrom (s.heap.objs.size + 1) r.scope.names []).lookup x).isSome = true := fun x hx => cellsFrom_has _ _ _ (.inr (by simpa using hx))
  refine wpAny_call ?_
  refine codeAny_call_cells (fd := methDef r.name q r.params r.body r.scope pm code doc) (binds := ps.zip xs) (by have := hA.depth; (first | lia | omega)) (S.up _ _ ho) hd (hC.nolimit.keeps S.up) (hcd.keeps S.up) rfl (hbind pm code doc xs hxl) rfl ?_ ?_ k2 k3 k1
  · intro x hx
    have hm := (List.of_mem_zip (a := x.1) (b := x.2) hx).1
    rcases k7 x.1 hm with h | ⟨h1, h2⟩
    · exact .inl h
    · exact .inr ⟨h1, hcell _ (by simpa using h2)⟩
  · intro s₁ ic
    generalize henv : callEnvC (methDef r.name q r.params r.body r.scope pm code doc) s.heap.objs.size a = env at ic ⊢
    have e1 : env.scope = r.scope := by rw [← henv]; rfl
    have e2 : env.globals = mainGlobals := by rw [← henv]; rfl
    have e3 : env.builtins = builtinsNs := by rw [← henv]; rfl
    have e4 : env.locals = s.heap.objs.size := by rw [← henv]; rfl
    have e5 : env.cells = cellsFrom (s.heap.objs.size + 1) r.scope.names [] := by rw [← henv]; rfl
    have e6 : ∀ x, env.kindOf x = r.scope.names.lookup x := fun x => by rw [← henv]; rfl
    have K : EnvOK ⟨r.scope, vars⟩ (env.locals :: env.cells.filterMap fun p => env.cells.lookup p.1) env := ⟨e1, k1, e2, e3, List.mem_cons_self, k5, k6⟩
    have hmemc : ∀ x c, env.cells.lookup x = some c → (x, c) ∈ env.cells := fun x c h => mem_of_lookup h
    have hfr : env.frame = some env.locals := by rw [← henv]; rfl
    obtain ⟨fl₀, hf₀, hf₁⟩ := hA.frs
    have O : OwnC (env.locals :: env.cells.filterMap fun p => env.cells.lookup p.1) env (A.deeper env) := ⟨⟨fl₀, by show A.frames.map _ = _; rw [hf₀]; rfl⟩, hfr, fun x c h => List.mem_cons_of_mem _ (List.mem_filterMap.mpr ⟨(x, c), hmemc x c h, h⟩), fun x y c h1 h2 => name_of_addr ic.apart (hmemc _ _ h1) (hmemc _ _ h2)⟩
    have A' : AOK d (A.deeper env) P (env.locals :: env.cells.filterMap fun p => env.cells.lookup p.1) := ⟨by have := hA.depth; show A.depth + 1 + 2 * d + 1 < _; (first | lia | omega), by have := hA.units; rw [Around.deeper_units]; (first | lia | omega), hA.handled, env :: fl₀, by show A.frames.map _ = _; rw [hf₀]; rfl, fun v hv => (List.mem_cons.mp hv).elim (fun q => by rw [q]; exact ⟨by rw [e1, k1]; decide, env.locals, hfr, .inl List.mem_cons_self⟩) fun hv => let ⟨g1, L, g2, g3⟩ := hf₁ v hv; ⟨g1, L, g2, .inr (g3.resolve_left List.not_mem_nil)⟩⟩
    have hge : ∀ b ∈ env.locals :: env.cells.filterMap fun p => env.cells.lookup p.1, s.heap.objs.size ≤ b := by
      intro b hb
      rcases List.mem_cons.mp hb with rfl | hb
      · exact ic.toInCall.fresh
      · obtain ⟨⟨x, c⟩, hm, hl⟩ := List.mem_filterMap.mp hb
        exact Nat.le_of_lt (Nat.lt_of_le_of_lt ic.toInCall.fresh (ic.above x b (hmemc x b hl)))
    obtain ⟨hh, tk, hs₁⟩ := ic.toInCall.same
    have S₁ : St C P (env.locals :: env.cells.filterMap fun p => env.cells.lookup p.1) W H s₁ := S.ownAll ic.toInCall.keep (by rw [hs₁]) (by rw [hs₁]) (fun b hb => none_of_le (hge b hb)) fun b hb => by
      rcases List.mem_cons.mp hb with rfl | hb
      · obtain ⟨o, _, _, e, f, _⟩ := ic.toInCall.ns; exact ⟨o, e, fun _ q => nomatch (f.symm.trans q)⟩
      · obtain ⟨⟨x, c⟩, hm, hl⟩ := List.mem_filterMap.mp hb
        obtain ⟨o, e, f⟩ := ic.cell x b hl; exact ⟨o, e, fun _ q => nomatch (f.symm.trans q)⟩
    have V₁ : Vs C P (env.locals :: env.cells.filterMap fun p => env.cells.lookup p.1) ⟨r.scope, vars⟩ env W (fun i => vs[i]?) s₁.heap := by
      have slot : ∀ x i, (x, i) ∈ vars → ∀ v, vs[i]? = some v → ps[i]? = some x := fun x i hm v hv => by
        rcases (k8 (x, i) hm).1 with h | h
        · have := (List.getElem?_eq_some_iff.mp hv).1
          simp at h; (first | lia | omega)
        · exact h
      refine ⟨⟨_, ic.toInCall.ns, fun x i hm hl v hv => ?_⟩, fun x i hm hc => ?_⟩
      · obtain ⟨y, hy, hry⟩ := hr.get hv
        exact ⟨y, bindL_at ((e6 x).trans hl) ps xs _ i k4 (slot x i hm v hv) y hy, hry⟩
      · have hin : (x, NameKind.cell) ∈ r.scope.names := by
          rcases (k8 (x, i) hm).2 with h | h
          · exact absurd hc h
          · exact h
        obtain ⟨c, hcc⟩ := Option.isSome_iff_exists.mp (hcell x (by simpa using hin))
        rw [← e5] at hcc
        refine ⟨c, _, hcc, ic.cell x c hcc, .inl (O.cells x c hcc), fun q => ?_, fun v hv => ?_⟩
        · have := ic.above x c (hmemc x c hcc); rw [q] at this; exact Nat.lt_irrefl _ this
        · obtain ⟨y, hy, hry⟩ := hr.get hv
          exact ⟨y, bindC_at ((e6 x).trans hc) ps xs _ i k4 (slot x i hm v hv) y hy, hry⟩
    refine hsim env P _ (A.deeper env) W _ H s₁ _ X _ _ K O A' S₁ V₁ ht (fun W' ρ' H' s' fl x le S' vs' rf q => ?_) fun W' ρ' H' s' c e le S' vs' fl hx => fl.leaves K O A' S' vs' fun s₂ S₂ f₂ => hE W' H' s₂ c e le (S₂.lessOwn nofun) (f₂.lessOwn nofun) hx
    refine hQ W' H' s' (retV fl) _ le (S'.lessOwn nofun) ?_ q
    cases rf with
    | next => exact .none
    | brk => exact .none
    | cont => exact .none
    | ret h => exact h
end
end Mine
namespace Mine
open PySem PyProof.Rows PySem.SeqAt PySem.Calls

/-! what a call leaves behind is dropped -/
mutual
noncomputable def V.bel (n : Nat) : V → Bool
  | .tup xs => belL n xs
  | .lst xs => belL n xs
  | .dct kvs => belKV n kvs
  | .ref k => decide (k < n)
  | .obj k => decide (k < n)
  | _ => true
noncomputable def belL (n : Nat) : List V → Bool
  | [] => true
  | v :: vs => v.bel n && belL n vs
noncomputable def belKV (n : Nat) : List (Str × V) → Bool
  | [] => true
  | (_, v) :: vs => v.bel n && belKV n vs
end

section
variable {C : Cx}

theorem Rep.bel {W : Wd} : ∀ {v : V} {x : Value}, Rep C W v x → v.bel W.φ.length = true :=
  fun {v x} h => Rep.rec (C := C) (W := W) (motive_1 := fun v _ _ => v.bel W.φ.length = true) (motive_2 := fun vs _ _ => belL W.φ.length vs = true) (motive_3 := fun vs _ _ => belKV W.φ.length vs = true)
    rfl (fun _ => rfl) (fun _ _ => rfl) (fun _ _ => rfl) (fun _ _ _ _ ih => by rw [V.bel]; exact ih) (fun _ _ _ _ ih => by rw [V.bel]; exact ih) (fun _ _ _ _ ih => by rw [V.bel]; exact ih)
    (fun h => by rw [V.bel]; exact decide_eq_true (List.getElem?_eq_some_iff.mp h).1) (fun _ _ _ _ h => by rw [V.bel]; exact decide_eq_true (List.getElem?_eq_some_iff.mp h).1)
    rfl (fun _ _ i1 i2 => by rw [belL, i1, i2]; rfl) rfl (fun _ _ i1 i2 => by rw [belKV, i1, i2]; rfl) h
noncomputable def Wd.cut (W : Wd) (n : Nat) : Wd := { W with φ := W.φ.take n }
theorem Rep.cut {W : Wd} {n : Nat} : ∀ {v : V} {x : Value}, Rep C W v x → v.bel n = true → Rep C (W.cut n) v x :=
  fun {v x} h => Rep.rec (C := C) (W := W) (motive_1 := fun v x _ => v.bel n = true → Rep C (W.cut n) v x) (motive_2 := fun vs xs _ => belL n vs = true → RepL C (W.cut n) vs xs) (motive_3 := fun vs xs _ => belKV n vs = true → RepKV C (W.cut n) vs xs)
    (fun _ => .none) (fun _ _ => .bool _) (fun _ _ _ => .int ..) (fun _ _ _ => .str ..) (fun h1 h2 h3 _ ih hb => .tup h1 h2 h3 (ih (by rwa [V.bel] at hb))) (fun h1 h2 h3 _ ih hb => .lst h1 h2 h3 (ih (by rwa [V.bel] at hb))) (fun h1 h2 h3 _ ih hb => .dct h1 h2 h3 (ih (by rwa [V.bel] at hb)))
    (fun h hb => .ref (by rw [V.bel] at hb; show (W.φ.take n)[_]? = _; rw [List.getElem?_take_of_lt (of_decide_eq_true hb)]; exact h))
    (fun h0 h1 h2 h3 h hb => .obj h0 h1 h2 h3 (by rw [V.bel] at hb; show (W.φ.take n)[_]? = _; rw [List.getElem?_take_of_lt (of_decide_eq_true hb)]; exact h))
    (fun _ => .nil) (fun _ _ i1 i2 hb => by rw [belL, Bool.and_eq_true] at hb; exact .cons (i1 hb.1) (i2 hb.2)) (fun _ => .nil) (fun _ _ i1 i2 hb => by rw [belKV, Bool.and_eq_true] at hb; exact .cons (i1 hb.1) (i2 hb.2)) h
theorem RepL.bel {W : Wd} {v : List V} {x : List Value} (h : RepL C W v x) : belL W.φ.length v = true := by
  induction v generalizing x with
  | nil => rfl
  | cons v vs ih => obtain ⟨x, ys, rfl, a, b⟩ := h.inv; rw [belL, a.bel, ih b]; rfl
theorem RepKV.bel {W : Wd} {v : List (Str × V)} {x : List (Str × Value)} (h : RepKV C W v x) : belKV W.φ.length v = true := by
  induction v generalizing x with
  | nil => rfl
  | cons v vs ih => obtain ⟨x, ys, rfl, a, b⟩ := h.inv; rw [belKV, a.bel, ih b]; rfl
theorem RepL.cut {W : Wd} {n : Nat} {v : List V} {x : List Value} (h : RepL C W v x) (hb : belL n v = true) : RepL C (W.cut n) v x := by
  induction v generalizing x with
  | nil => rw [h.inv0]; exact .nil
  | cons v vs ih => obtain ⟨x, ys, rfl, a, b⟩ := h.inv; rw [belL, Bool.and_eq_true] at hb; exact .cons (a.cut hb.1) (ih b hb.2)
theorem RepKV.cut {W : Wd} {n : Nat} {v : List (Str × V)} {x : List (Str × Value)} (h : RepKV C W v x) (hb : belKV n v = true) : RepKV C (W.cut n) v x := by
  induction v generalizing x with
  | nil => rw [h.inv0]; exact .nil
  | cons v vs ih => obtain ⟨x, ys, rfl, a, b⟩ := h.inv; rw [belKV, Bool.and_eq_true] at hb; exact .cons (a.cut hb.1) (ih b hb.2)

theorem ORep.cut {W W' : Wd} {m : MO} {o o' : Obj} (h0 : ORep C W m o) (h : ORep C W' m o') : ORep C (W'.cut W.φ.length) m o' := by
  cases m with
  | lst xs =>
    obtain ⟨i, n, rfl, hr⟩ := h
    obtain ⟨_, _, _, hr0⟩ := h0
    exact ⟨i, n, rfl, hr.cut hr0.bel⟩
  | dct kvs =>
    obtain ⟨k, hd, hr⟩ := h
    obtain ⟨_, _, hr0⟩ := h0
    exact ⟨k, hd, hr.cut hr0.bel⟩
  | att kvs =>
    obtain ⟨m, h⟩ := h
    obtain ⟨_, h0⟩ := h0
    exact ⟨m, h.ns, fun x v e => let ⟨_, _, b0⟩ := h0.at_ x v e; let ⟨y, a, b⟩ := h.at_ x v e; ⟨y, a, b.cut b0.bel⟩, h.only⟩
  | dead => trivial

theorem St.cut {P P' : Fz} {own own' : List Addr} {W W' : Wd} {H K : Hp} {s s' : Shared} (S : St C P own W H s) (S' : St C P' own' W' (H ++ K) s') (le : W.Le W') : W.Le (W'.cut H.length) ∧ St C P' own' (W'.cut H.length) H s' := by
  have hl := S.hp.len
  have hl' := S'.hp.len
  rw [List.length_append] at hl'
  have sub : ∀ a, a ∈ (W'.cut H.length).φ → a ∈ W'.φ := fun a ha => List.mem_of_mem_take ha
  refine ⟨⟨le.F, fun n a e => ?_⟩, S'.base, S'.fin, S'.pin, S'.pF, ⟨?_, ?_, fun a ha => S'.hp.ex a (sub a ha), fun a ha => S'.hp.priv a (sub a ha), fun n m e hd => ?_⟩, S'.ownF, S'.ownP, fun a ha q => S'.ownφ a ha (sub a q), S'.ownEx, S'.gens, S'.os⟩
  · have hn := (List.getElem?_eq_some_iff.mp e).1
    show (W'.φ.take H.length)[n]? = _
    rw [List.getElem?_take_of_lt (by (first | lia | omega))]
    exact le.φ n a e
  · show (W'.φ.take H.length).length = _
    rw [List.length_take]; (first | lia | omega)
  · exact S'.hp.nodup.sublist (List.take_sublist ..)
  · have hn := (List.getElem?_eq_some_iff.mp e).1
    obtain ⟨a, o, h1, h2, h3, h4⟩ := S'.hp.at_ n m (by rw [List.getElem?_append_left hn]; exact e) hd
    obtain ⟨a0, o0, g1, g2, g3, g4⟩ := S.hp.at_ n m e hd
    refine ⟨a, o, ?_, h2, h3, hl ▸ g4.cut h4⟩
    show (W'.φ.take H.length)[n]? = _
    rw [List.getElem?_take_of_lt hn]
    exact h1

/-- a call of which nothing stays but its value -/
noncomputable def cpB (Q : V → Hp → Prop) (H : Hp) (v : V) (H2 : Hp) : Prop := v.bel H.length = true ∧ (∃ K, H2 = H ++ K) ∧ Q v H
noncomputable def cpA (S : Orc) (f : String) (Q : V → Hp → Prop) (X : XP) (vs : List V) (H : Hp) : Prop := S f vs H (cpB Q H) X
noncomputable def callP (S : Orc) (f : String) (ts : List ET) : ET := fun ρ H Q X => evs ts ρ H (cpA S f Q X) X

theorem sim_callP {d : Nat} {σ : Sc} {S : Orc} {f : String} {e : Expr} {es : List Expr} {ts : List ET} {p pos : Pos} (hC : CxOK C) (hS : GoodOrc C d S) (hf : ∃ a o fd, C.mg (Str.ofString f) = some (.ref a) ∧ C.adr (Str.ofString f) = some a ∧ C.base.get? a = some o ∧ o.data = .func fd)
    (h : SimEs C d σ (e :: es) ts) (hg : σ.glob f = true) (hs : noStar (e :: es) = true) :
    SimE C d σ (.Call (.Name (Str.ofString f) p) (e :: es) [] pos) (callP S f ts) := by
  intro env P own A W ρ H s Q X QQ E hK hA St₀ vs ht hQ hE
  obtain ⟨a, o, fd, h1, h0, h2, h3⟩ := hf
  refine wpAny_Call_Name_kw (name_glob hC h1 hg hK St₀ ?_)
  rw [backTo_plain hs]
  refine Calls.callWith_function (o := o) (fd := fd) (Calls.evalArgs_plain (sim_evs h env P own A W ρ H s _ X _ E hK hA St₀ vs ht (fun W' H' s' v x le S' vs' r _ q => ?_) hE))
  refine ⟨⟨S'.up _ _ h2, h3⟩, ?_⟩
  obtain ⟨a', _, _, h1', _, _, hcall⟩ := hS f v H' _ X q
  rw [h0] at h1'; cases h1'
  refine hcall _ W' s' A x QQ E (hA.forC S') S'.aside r (fun W₂ H₂ s₂ v₂ x₂ le₂ S₂ r₂ q₂ => ?_) fun W₂ H₂ s₂ c e le₂ S₂ fl q₂ => ?_
  · obtain ⟨hb, ⟨K, rfl⟩, q₂⟩ := q₂
    obtain ⟨le₃, S₃⟩ := S'.cut (S'.back S₂) le₂
    exact hQ _ H' s₂ v₂ x₂ (le.trans le₃) S₃ ((vs'.mono le₃).at_ hK fun a ha o e => S'.back_at S₂ ha e) (r₂.cut hb) q₂
  · exact hE W₂ H₂ s₂ c e (le.trans le₂) (S'.back S₂) ((vs'.mono le₂).at_ hK fun a ha o e => S'.back_at S₂ ha e) (fl.back S') q₂

/-! the table of the text's defs -/
abbrev Tbl := String → Option (Nat × (Orc → ST))
noncomputable def Rec (tbl : Tbl) : Nat → Orc
  | 0 => fun _ _ _ _ _ => False
  | d + 1 => fun f vs H Q X => match tbl f with
    | none => False
    | some (n, b) => vs.length = n ∧ b (fun f vs H Q X => Box (Rec tbl d f vs H Q X)) (fun i => vs[i]?) H (fun fl _ H' => Q (retV fl) H') X
noncomputable def Spec (tbl : Tbl) (d : Nat) : Orc := fun f vs H Q X => Box (Rec tbl d f vs H Q X)
theorem Spec_succ {tbl : Tbl} {d : Nat} {f : String} {vs : List V} {H : Hp} {Q : V → Hp → Prop} {X : XP} : Spec tbl (d + 1) f vs H Q X = match tbl f with
    | none => False
    | some (n, b) => vs.length = n ∧ b (Spec tbl d) (fun i => vs[i]?) H (fun fl _ H' => Q (retV fl) H') X := Box.eq

noncomputable def Fns (C : Cx) (l : List String) : Prop := ∀ f ∈ l, ∃ a o fd, C.mg (Str.ofString f) = some (.ref a) ∧ C.adr (Str.ofString f) = some a ∧ C.base.get? a = some o ∧ o.data = .func fd

theorem good_spec {tbl : Tbl} (hC : CxOK C) (h : ∀ f n b, tbl f = some (n, b) → ∃ r vars ps, Fun C (Str.ofString f) r ∧ defOK r vars ps = true ∧
    (∀ pm code doc (xs : List Value), xs.length = ps.length → bindArgs (methDef r.name (Str.ofString f) r.params r.body r.scope pm code doc) ⟨xs, []⟩ = pure (ps.zip xs)) ∧ ps.length = n ∧
    ∀ d S, GoodOrc C d S → SimSs C d ⟨r.scope, vars⟩ r.body (b S)) : ∀ d, GoodOrc C d (Spec tbl d)
  | 0 => fun _ _ _ _ _ q => q.out.elim
  | d + 1 => by
    intro f vs H Q X hq
    rw [Spec_succ] at hq
    cases hb : tbl f with
    | none => rw [hb] at hq; exact hq.elim
    | some p =>
      obtain ⟨n, b⟩ := p
      rw [hb] at hq
      obtain ⟨hn, hq⟩ := hq
      obtain ⟨r, vars, ps, ⟨a, o, pm, code, doc, g1, g2, g3, g4⟩, e3, e4, e5, e6⟩ := h f n b hb
      refine ⟨a, o, _, g1, g2, g3, fun P W s A xs QQ E hA S hr hQ hE => ?_⟩
      exact call_def hC e3 e4 (e6 d _ (good_spec hC h d)) (hn.trans e5.symm) hq g2 g3 g4 hA S hr hQ hE
end
end Mine
namespace Mine
open PySem PyProof.Rows PySem.SeqAt PySem.Calls

section
variable {C : Cx} {d : Nat} {σ : Sc}
noncomputable def neg (t : ET) : ET := fun ρ H Q X => t ρ H (fun v H1 => gotI v fun i => Q (.int (-i)) H1) X
theorem sim_neg {e : Expr} {pos : Pos} {t : ET} (h : SimE C d σ e t) : SimE C d σ (.UnaryOp .USub e pos) (neg t) := by
  intro env P own A W ρ H s Q X QQ E hK hA S vs ht hQ hE
  refine wpAny_UnaryOp (h env P own A W ρ H s _ X _ E hK hA S vs ht (fun W' H' s' v x le S' vs' r q => ?_) hE)
  obtain ⟨i, rfl, q⟩ := gotI.ex q
  cases r
  exact PySem.P.neg_int (hQ W' H' _ _ _ le (S'.tok _) vs' (.int ..) q)
end

/-! the defs as they are written -/
noncomputable def defOf : Stmt → DefRec
  | .FunctionDef name a b _ _ _ sc _ _ pos => ⟨name, a, b, sc, pos⟩
  | _ => ⟨Str.ofString "", ⟨[], [], none, [], [], none, []⟩, [], { kind := .function, names := [], isGenerator := false, isCoroutine := false }, ⟨0, 0, 0, 0⟩⟩
noncomputable def recAt (p : Program) (k : Nat) : DefRec := defOf (p.main.body.getD k (.Pass ⟨0, 0, 0, 0⟩))

theorem hasDef_at {C : Cx} {q : Program} {loose : List Str} {mean : ExcName → Option Value} (T : Top q loose mean C.mg C.mb C.base) (hadr : ∀ r ∈ recsOf q, ∀ a, C.mg r.name = some (.ref a) → C.adr r.name = some a) {r : DefRec} (i : Nat) (h : (recsOf q)[i]? = some r) : HasDef C r :=
  have hm := List.mem_of_getElem? h
  let ⟨a, o, pm, code, doc, h1, h2⟩ := T.fn r hm
  ⟨a, o, pm, code, doc, h1, hadr r hm a h1, h2⟩

noncomputable def tblOf (l : List (String × Nat × (Orc → ST))) : Tbl := fun f => (l.find? fun x => x.1 == f).map (·.2)

/-- a def of the text and its small form -/
noncomputable def DefFit (C : Cx) (x : String × Nat × (Orc → ST)) : Prop :=
  ∃ r vars ps, Fun C (Str.ofString x.1) r ∧ defOK r vars ps = true ∧
    (∀ pm code doc (xs : List Value), xs.length = ps.length → bindArgs (methDef r.name (Str.ofString x.1) r.params r.body r.scope pm code doc) ⟨xs, []⟩ = pure (ps.zip xs)) ∧ ps.length = x.2.1 ∧
    ∀ d S, GoodOrc C d S → SimSs C d ⟨r.scope, vars⟩ r.body (x.2.2 S)
inductive AllL {α : Type} (P : α → Prop) : List α → Prop
  | nil : AllL P []
  | cons {a : α} {l : List α} : P a → AllL P l → AllL P (a :: l)
theorem AllL.all {α : Type} {P : α → Prop} {l : List α} (h : AllL P l) : ∀ x ∈ l, P x := by
  induction h with
  | nil => intro x hx; cases hx
  | cons a _ ih =>
    intro x hx
    rcases List.mem_cons.mp hx with rfl | hx
    · exact a
    · exact ih x hx
theorem fn_of {C : Cx} {r : DefRec} (h : HasDef C r) : ∃ a o fd, C.mg r.name = some (.ref a) ∧ C.adr r.name = some a ∧ C.base.get? a = some o ∧ o.data = .func fd :=
  let ⟨a, o, _, _, _, h1, h0, h2, h3, _⟩ := h; ⟨a, o, _, h1, h0, h2, h3⟩
section
variable {α : Type} {xs : List α}
theorem lenS {n : Nat} (h : xs.length = n + 1) : ∃ a ys, xs = a :: ys ∧ ys.length = n := by
  cases xs with
  | nil => cases h
  | cons a ys => exact ⟨a, ys, rfl, Nat.succ.inj h⟩
theorem len1 (h : xs.length = 1) : ∃ a, xs = [a] := let ⟨a, _, e, h⟩ := lenS h; ⟨a, by rw [e, List.length_eq_zero_iff.mp h]⟩
theorem len2 (h : xs.length = 2) : ∃ a b, xs = [a, b] := let ⟨a, _, e, h⟩ := lenS h; let ⟨b, e'⟩ := len1 h; ⟨a, b, by rw [e, e']⟩
theorem len3 (h : xs.length = 3) : ∃ a b c, xs = [a, b, c] := let ⟨a, _, e, h⟩ := lenS h; let ⟨b, c, e'⟩ := len2 h; ⟨a, b, c, by rw [e, e']⟩
theorem len4 (h : xs.length = 4) : ∃ a b c d, xs = [a, b, c, d] := let ⟨a, _, e, h⟩ := lenS h; let ⟨b, c, d, e'⟩ := len3 h; ⟨a, b, c, d, by rw [e, e']⟩
theorem len5 (h : xs.length = 5) : ∃ a b c d e, xs = [a, b, c, d, e] := let ⟨a, _, e, h⟩ := lenS h; let ⟨b, c, d, f, e'⟩ := len4 h; ⟨a, b, c, d, f, by rw [e, e']⟩
end
theorem good_tbl {C : Cx} {l : List (String × Nat × (Orc → ST))} (hC : CxOK C) (h : ∀ x ∈ l, DefFit C x) : ∀ d, GoodOrc C d (Spec (tblOf l) d) :=
  good_spec hC fun f n b e => by
    unfold tblOf at e
    rw [Option.map_eq_some_iff] at e
    obtain ⟨x, hx, e⟩ := e
    have h1 := List.mem_of_find?_eq_some hx
    have h2 := List.find?_some hx
    simp at h2
    obtain ⟨x1, x2, x3⟩ := x
    simp at e h2
    obtain ⟨rfl, rfl⟩ := e
    subst h2
    exact h _ h1
end Mine
namespace Mine
open PySem PyProof.Rows PySem.SeqAt PySem.Calls

theorem boot_blt : ∀ f ∈ bltNames, bootBuiltins (Str.ofString f) = some (bltVal f) := by
  intro f hf
  simp only [bltNames, List.mem_cons, List.not_mem_nil, or_false] at hf
  rcases hf with rfl | rfl | rfl | rfl | rfl | rfl | rfl | rfl | rfl | rfl | rfl | rfl <;> kernel_rfl

noncomputable def bltFree (q : Program) (loose : List Str) : Bool := bltNames.all fun f => let x := Str.ofString f
  !(x == ("__name__" : Str)) && !startupNames.contains x && !loose.contains x && !((recsOf q).map (·.name)).contains x && !((litsOf q).map (·.1)).contains x && !((clssOf q loose).map (·.name)).contains x

theorem cx_ok {C : Cx} {q : Program} {loose : List Str} {mean : ExcName → Option Value} (T : Top q loose mean C.mg C.mb C.base) (h : bltFree q loose = true) : CxOK C where
  g := T.g
  b := T.b
  nolimit := T.nolimit
  blt := fun f hf => by
    have := List.all_eq_true.mp h f hf
    simp only [Bool.and_eq_true, Bool.not_eq_true', List.contains_eq_mem, decide_eq_false_iff_not, beq_eq_false_iff_ne] at this
    obtain ⟨⟨⟨⟨⟨h0, h1⟩, h2⟩, h3⟩, h4⟩, h5⟩ := this
    exact ⟨T.free _ h1 h2 h3 h4 h5, (T.builtins _ h0).trans (boot_blt f hf)⟩

theorem ints_rep {C : Cx} {W : Wd} : ∀ {vs : List Value} {ns : List Int}, IntsAre vs ns → RepL C W (ns.map .int) vs
  | _, _, .nil => .nil
  | _, _, .cons n t r => .cons (.int n t) (ints_rep r)

/-- the law, from its small form -/
theorem run_law {prog : Program} {w : World} {mg mb : Str → Option Value} {s₁ : Shared} {S : Orc} {rc : Addr} {adr : Str → Option Addr} {dd : Nat} (hdd : dd ≤ 300) (hgood : GoodOrc ⟨prog, w, s₁.heap, mg, mb, s₁.os, rc, adr⟩ dd S) (hg : s₁.gens = #[])
    {a fa : Addr} {vs : List Value} {ns : List Int} (hL : s₁.heap.IsList a vs.toArray) (hI : IntsAre vs ns) (hfa : adr (Str.ofString "law") = some fa)
    (hlaw : ∀ (Q : V → Hp → Prop) (X : XP), (∀ H, Q (.bool true) H) → S "law" [.lst (ns.map .int)] [] Q X)
    {QQ E : Value → Shared → Prop} (hQ : ∀ s', (∀ b o, s₁.heap.get? b = some o → s'.heap.get? b = some o) → s'.os = s₁.os → s'.gens = #[] → QQ (.bool true) s') :
    wpAny (model prog w) callerA (call (.ref fa) [.ref a]) QQ E s₁ := by
  obtain ⟨a', o, fd, h1, h2, h3, hcall⟩ := hgood "law" _ [] _ (fun _ _ => False) (hlaw (fun v _ => v = .bool true) _ fun _ => rfl)
  cases hfa.symm.trans h1
  obtain ⟨oL, hoL, hcL, n, hdL⟩ := hL
  refine hcall (fun _ => none) ⟨fun b => s₁.heap.get? b, []⟩ s₁ callerA [.ref a] QQ E ⟨Nat.lt_of_le_of_lt (Nat.add_le_add_left (Nat.mul_le_mul_left 2 hdd) _) (by decide +kernel : callerA.depth + 2 * 300 < recursionLimit), Nat.lt_of_le_of_lt (Nat.add_le_add_right (Nat.add_le_add_left (Nat.mul_le_mul_left 8 hdd) _) _) (by decide +kernel : callerA.units + 8 * 300 + 106 < cLine), rfl, [], rfl, fun _ h => absurd h List.not_mem_nil⟩ ?_ (.cons (.lst (o := oL) hoL hcL hdL (by simpa using ints_rep hI)) .nil) (fun W' H' s' v x le S' r q => ?_) fun _ _ _ _ _ _ _ _ f => f.elim
  · exact ⟨fun _ _ e => e, fun _ _ e => e, fun _ _ e => (Option.noConfusion rfl (heq_of_eq e)), fun _ _ e => (Option.noConfusion rfl (heq_of_eq e)), ⟨rfl, List.nodup_nil, fun _ h => absurd h List.not_mem_nil, fun _ h => absurd h List.not_mem_nil, fun n m e => by simp at e⟩, fun _ h => absurd h List.not_mem_nil, fun _ h => absurd h List.not_mem_nil, fun _ h => absurd h List.not_mem_nil, fun _ h => absurd h List.not_mem_nil, hg, rfl⟩
  · subst q
    cases r
    exact hQ s' (fun b o e => S'.fin b o (le.F b o e)) S'.os S'.gens
end Mine
namespace Mine
open PySem PyProof.Rows PySem.SeqAt PySem.Calls

/-! steps: one a word -/
section
variable {ρ : Rho} {H : Hp} {Q : V → Hp → Prop} {X : XP} {i : Nat} {v w : V} {U : Fl → Rho → Hp → Prop} {xs ys : List V} {p q : ST} {r : Bool} {a b : Prop}
theorem ex_ {α : Type} {o : Option α} {r : α} {P : α → Prop} (h : o = some r) (hp : P r) : got o P := by rw [h]; exact hp
theorem ex0_ {α : Type} {o : Option α} {r : α} {P : α → Prop} (h : o = some r) (hp : P r) : ∃ r, o = some r ∧ P r := ⟨r, h, hp⟩
theorem brsT_ (hr : r = true) (h : a) : Br a b r := ⟨fun _ => h, fun e => Bool.noConfusion (hr.symm.trans e)⟩
theorem brsF_ (hr : r = false) (h : b) : Br a b r := ⟨fun e => Bool.noConfusion (hr.symm.trans e), fun _ => h⟩
theorem brs_ (h1 : r = true → a) (h2 : r = false → b) : Br a b r := ⟨h1, h2⟩
/-- what comes behind, under a name -/
theorem brs_abs (h : ∀ K : Fl → Rho → Hp → Prop, K = U → Br (p ρ H K X) (q ρ H K X) r) : Br (p ρ H U X) (q ρ H U X) r := h U rfl
theorem forN_ (h : U .next ρ H) : forL i p [] ρ H U X := forL_nil ▸ h
theorem forC_ {vs : List V} (h : p (upd ρ i v) H (lpK (forL i p vs) U X) X) : forL i p (v :: vs) ρ H U X := forL_cons ▸ h
end

/-! calls -/
mutual
theorem V.bel_mono {n : Nat} : ∀ {v : V}, v.bel 0 = true → v.bel n = true
  | .tup xs, h => by rw [V.bel] at h ⊢; exact belL_mono h
  | .lst xs, h => by rw [V.bel] at h ⊢; exact belL_mono h
  | .dct xs, h => by rw [V.bel] at h ⊢; exact belKV_mono h
  | .ref k, h => by rw [V.bel] at h; simp at h
  | .none, _ => rfl
  | .bool _, _ => rfl
  | .int _, _ => rfl
  | .str _, _ => rfl
  | .obj k, h => by rw [V.bel] at h; simp at h
theorem belL_mono {n : Nat} : ∀ {v : List V}, belL 0 v = true → belL n v = true
  | [], _ => rfl
  | v :: vs, h => by rw [belL, Bool.and_eq_true] at h; rw [belL, V.bel_mono h.1, belL_mono h.2]; rfl
theorem belKV_mono {n : Nat} : ∀ {v : List (Str × V)}, belKV 0 v = true → belKV n v = true
  | [], _ => rfl
  | (_, v) :: vs, h => by rw [belKV, Bool.and_eq_true] at h; rw [belKV, V.bel_mono h.1, belKV_mono h.2]; rfl
end

section
variable {tbl : Tbl} {d : Nat} {f : String} {vs : List V} {v : V} {ρ : Rho} {H : Hp} {Q : V → Hp → Prop} {X : XP} {ts : List ET}
/-- called so, it gives v, and leaves no trace -/
noncomputable def Ret (tbl : Tbl) (d : Nat) (f : String) (vs : List V) (v : V) : Prop := ∀ (H : Hp) (Q : V → Hp → Prop) (X : XP), (∀ K, Q v (H ++ K)) → Spec tbl d f vs H Q X
theorem Ret.use {Z : V → Hp → Prop} (h : Ret tbl d f vs v) (hv : v.bel 0 = true) (hq : Z v H) : Spec tbl d f vs H (cpB Z H) X :=
  h H _ X fun K => ⟨V.bel_mono hv, ⟨K, rfl⟩, hq⟩
theorem Ret.intro {n : Nat} {b : Orc → ST} (hb : tbl f = some (n, b)) (hn : vs.length = n) (h : ∀ (H : Hp) (Q : V → Hp → Prop) (X : XP), (∀ K, Q v (H ++ K)) → b (Spec tbl d) (fun i => vs[i]?) H (fun fl _ H' => Q (retV fl) H') X) : Ret tbl (d + 1) f vs v := by
  intro H Q X hq
  rw [Spec_succ, hb]
  exact ⟨hn, h H Q X hq⟩

theorem Ret.of {n : Nat} {b : Orc → ST} (hb : tbl f = some (n, b)) (hn : vs.length = n) (h : ∀ (H : Hp) (Q : V → Hp → Prop) (X : XP), Q v H → b (Spec tbl d) (fun i => vs[i]?) H (fun fl _ H' => Q (retV fl) H') X) : Ret tbl (d + 1) f vs v :=
  .intro hb hn fun H Q X hq => h H Q X (by simpa using hq [])

/-! comprehensions -/
theorem compN_ {j : Nat} {cond : Option BT} {elt : ET} {acc : List V} {O : List V → Hp → Prop} (h : O acc H) : compGo j cond elt ρ [] acc H O := compGo_nil ▸ h
theorem compC_ {j : Nat} {elt : ET} {acc xs : List V} {x : V} {O : List V → Hp → Prop} (h : elt (upd ρ j x) H (fun y H1 => compGo j none elt ρ xs (acc ++ [y]) H1 O) (fun _ _ => False)) : compGo j none elt ρ (x :: xs) acc H O := compGo_none ▸ h
end
end Mine
namespace Mine
open PySem PyProof.Rows PySem.SeqAt PySem.Calls

/-! while -/
section
variable {C : Cx} {d : Nat} {σ : Sc}
/-! nothing is asked of what is never come to -/
/-! two names at once -/
/-! over reversed(range(n)) -/
end

/-! steps -/
end Mine
set_option maxRecDepth 100000
namespace Mine
open PySem PyProof.Rows PySem.Calls

/-! the text's own exceptions -/
/-- the names that the classes do not bind -/
noncomputable def clsNames : List Str := "__class__" :: quietNames
noncomputable def veBm : List Value := [.type "ValueError", .type "Exception", .type "BaseException", .type "object"]
/-- a class of exceptions, and the own classes above it -/
noncomputable def ExcAt (h : Heap) (C : Addr) (up : List Addr) : Prop := ∃ N nm q bs hdct sn sub ab col dd k0 k1 k2 k3 k5 mN,
  h.get? C = some (excClassObj nm q C N bs (up.map Value.ref ++ veBm) hdct sn sub ab col dd k0 k1 k2 k3 k5 "ValueError.__new__") ∧ h.Ns N mN ∧ ∀ n ∈ clsNames, mN n = none
theorem ExcAt.keeps {h h' : Heap} {C : Addr} {up : List Addr} (x : ExcAt h C up) (k : ∀ b o, h.get? b = some o → h'.get? b = some o) : ExcAt h' C up :=
  let ⟨N, nm, q, bs, hdct, sn, sub, ab, col, dd, k0, k1, k2, k3, k5, mN, h1, h2, h3⟩ := x
  ⟨N, nm, q, bs, hdct, sn, sub, ab, col, dd, k0, k1, k2, k3, k5, mN, k _ _ h1, h2.keeps k, h3⟩
inductive Ups (h : Heap) : List Addr → Prop
  | nil : Ups h []
  | cons {C : Addr} {up up' : List Addr} : ExcAt h C up' → Ups h up → Ups h (C :: up)
theorem Ups.keeps {h h' : Heap} {l : List Addr} (x : Ups h l) (k : ∀ b o, h.get? b = some o → h'.get? b = some o) : Ups h' l := by
  induction x with
  | nil => exact .nil
  | cons a _ ih => exact .cons (a.keeps k) ih
theorem Ups.tail {h : Heap} {l : List Addr} (x : Ups h l) : OwnTailQ h veBm (l.map Value.ref ++ veBm) := by
  induction x with
  | nil => exact .base
  | cons a _ ih =>
    obtain ⟨N, nm, q, bs, hdct, sn, sub, ab, col, dd, k0, k1, k2, k3, k5, mN, h1, h2, h3⟩ := a
    exact .own h1 h2 (fun n hn => h3 n (List.mem_cons_of_mem _ hn)) ih

section
variable {prog : Program} {w : World} {M : Model} {A : Around} {E : Value → Shared → Prop} {h : Heap} {g : Array GenState} {d : Drawn} {t : Nat} {os : OsState} {C D a : Addr} {up up' : List Addr} {o : Obj}
theorem base_in : (Value.ref D :: (up.map Value.ref ++ veBm)).contains (.type "BaseException") = true := by simp [veBm]
theorem obj_in : (Value.ref D :: (up.map Value.ref ++ veBm)).contains (.type "object") = true := by simp [veBm]
theorem match_own {Q : Bool → Shared → Prop} (x : ExcAt h C up) (y : ExcAt h D up') (he : h.get? a = some o) (hc : o.cls = .ref C) (hm : (Value.ref C :: (up.map Value.ref ++ veBm)).contains (.ref D) = true)
    (hq : Q true ⟨h, g, d, t, os⟩) : wpAny M A (excMatches (.ref a) (.ref D)) Q E ⟨h, g, d, t, os⟩ := by
  have f := tc_notTuple
  obtain ⟨N, nm, q, bs, hdct, sn, sub, ab, col, dd, k0, k1, k2, k3, k5, mN, h1, h2, h3⟩ := x
  obtain ⟨N', nm', q', bs', hdct', sn', sub', ab', col', dd', k0', k1', k2', k3', k5', mN', h1', h2', h3'⟩ := y
  unfold excMatches
  repeat (first | (with_reducible refine wpAny_loadPart_at he ?_; rw [hc]) | with_reducible refine wpAny_loadPart_at h1' ?_ | (with_reducible refine wpAny_isSubtype_exc h1' ?_; rw [base_in]) | (with_reducible refine wpAny_isSubtype_exc h1 ?_; rw [hm]) | wp_step)
  exact hq

/-! its class, asked of it -/
theorem look_along {n : Str} {y : Option Value} {Q : Option Value → Shared → Prop} (hn : n ∈ clsNames) (hrest : lookupAlong veBm n = pure y) (hq : Q y ⟨h, g, d, t, os⟩) {l : List Addr} (x : Ups h l) : wpAny M A (lookupAlong (l.map Value.ref ++ veBm) n) Q E ⟨h, g, d, t, os⟩ := by
  induction x with
  | nil => show wpAny M A (lookupAlong veBm n) Q E _; rw [hrest]; exact wpAny_pure hq
  | cons a _ ih =>
    obtain ⟨N, nm, q, bs, hdct, sn, sub, ab, col, dd, k0, k1, k2, k3, k5, mN, h1, h2, h3⟩ := a
    show wpAny M A (lookupAlong (_ :: _) n) Q E _
    rw [lookupAlong_cons]
    refine wpAny_bind (wpAny_classOwn_cls h1 h2 ?_)
    rw [h3 n hn]
    exact ih
theorem look_own {n : Str} {y : Option Value} {Q : Option Value → Shared → Prop} (hn : n ∈ clsNames) (x : ExcAt h C up) (u : Ups h up) (hB : typeLookup (.type "ValueError") n = pure y) (hq : Q y ⟨h, g, d, t, os⟩) : wpAny M A (typeLookup (.ref C) n) Q E ⟨h, g, d, t, os⟩ := by
  have hrest : lookupAlong veBm n = pure y := by rw [typeLookup_eq, F.attrBase_ValueError.mro] at hB; exact hB
  obtain ⟨N, nm, q, bs, hdct, sn, sub, ab, col, dd, k0, k1, k2, k3, k5, mN, h1, h2, h3⟩ := x
  rw [typeLookup_eq]
  refine wpAny_bind (wpAny_mroOf_exc h1 ?_)
  rw [lookupAlong_cons]
  refine wpAny_bind (wpAny_classOwn_exc h1 h2 ?_)
  rw [h3 n hn]
  exact look_along hn hrest hq u
theorem lk_ve_class : typeLookup (.type "ValueError") "__class__" = pure (some (.builtin "object.__class__")) := by rw [typeLookup_type, builtinLookup_eq_fast]; kernel_rfl
theorem class_get_own {R : Result → Shared → Prop} (x : ExcAt h C up) (hx : h.get? a = some o) (hc : o.cls = .ref C) (hq : R (.ok (.ret (.ref C))) ⟨h, g, d, t, os⟩) :
    codeAny (model prog w) A (.call (.builtin "getset_descriptor.__get__") ⟨[.builtin "object.__class__", .ref a, .ref C], []⟩) R ⟨h, g, d, t, os⟩ := by
  have hT5 : (⟨h, g, d, t, os⟩ : Shared).TypeIs (.builtin "object.__class__") "getset_descriptor" := F.typeOf_object_class
  have hcB : (Value.ref C :: (up.map Value.ref ++ veBm)).contains (.type (".".intercalate ("object.__class__".cutAt '.').dropLast)) = true := by rw [F.owner_object_class]; exact obj_in
  obtain ⟨N, nm, q, bs, hdct, sn, sub, ab, col, dd, k0, k1, k2, k3, k5, mN, h1, h2, h3⟩ := x
  refine codeAny_call_builtin F.slot_gs_get.plain F.entry_gs_get (F.slot_gs_get.check _ _ _ _ _ _ _ _ hT5 (F.args_gs_get _ _ _) ?_)
  repeat (any_goals (first | assumption | (with_reducible refine wpAny_loadPart_at hx ?_; rw [hc]) | (with_reducible refine wpAny_isSubtype_exc h1 ?_; rw [hcB]) | wp_step))
  refine ⟨Code.quiet_builtin _ (by decide +kernel), codeAny_builtin F.entry_object_class ?_⟩
  repeat (any_goals (first | assumption | (with_reducible refine wpAny_loadPart_at hx ?_; rw [hc]) | wp_step))
theorem class_entry_own {tk : Tok} {Q : Fin → Shared → Prop} (x : ExcAt h C up) (u : Ups h up) (hx : h.get? a = some o) (hc : o.cls = .ref C) (hq : Q (.done (.ret (.ref C))) ⟨h, g, d, t, os⟩) :
    wpAny (model prog w) A (Builtin.«object.__getattribute__» ⟨[.ref a, .str "__class__" tk], []⟩) Q E ⟨h, g, d, t, os⟩ := by
  have hT5 : (⟨h, g, d, t, os⟩ : Shared).TypeIs (.builtin "object.__class__") "getset_descriptor" := F.typeOf_object_class
  have f5 := F.typeOf_object_class
  have f6 := F.slot_gs_get.lookup
  have f7 := F.slot_gs_set.lookup
  have hm : ("__class__" : Str) ∈ clsNames := .head _
  repeat (any_goals (first | assumption | (with_reducible refine wpAny_loadPart_at hx ?_; rw [hc]) | with_reducible refine look_own hm x u lk_ve_class ?_ | wp_step))
  refine class_get_own x hx hc ?_
  repeat (any_goals (first | assumption | wp_step))
theorem class_by_own {tk : Tok} {Q : Value → Shared → Prop} (x : ExcAt h C up) (u : Ups h up) (hx : h.get? a = some o) (hc : o.cls = .ref C) (hq : Q (.ref C) ⟨h, g, d, t, os⟩) :
    wpAny (model prog w) A (getAttrBy (.ref a) (.str "__class__" tk) false) Q E ⟨h, g, d, t, os⟩ := by
  have f3 := F.attrBase_ValueError.ga.bind (.ref a)
  have hx2 : (Value.builtin "BaseException.__getattribute__" == Value.builtin "object.__getattribute__") = false := by decide +kernel
  have hx1 : (onTheHeap (Value.ref C) && Value.builtin "BaseException.__getattribute__" == Value.builtin "object.__getattribute__") = false := by rw [hx2]; rfl
  have hm1 : ("__getattribute__" : Str) ∈ clsNames := .tail _ (.tail _ (.head _))
  have hm2 : ("__getattr__" : Str) ∈ clsNames := .tail _ (.tail _ (.tail _ (.head _)))
  have x' := x
  obtain ⟨N, nm, q, bs, hdct, sn, sub, ab, col, dd, k0, k1, k2, k3, k5, mN, h1, h2, h3⟩ := x'
  repeat (any_goals (first | assumption | (with_reducible refine wpAny_loadPart_at hx ?_; rw [hc]) | with_reducible refine look_own hm1 x u F.attrBase_ValueError.ga.lookup ?_ | with_reducible refine look_own hm2 x u F.attrBase_ValueError.noGetattr ?_ | wp_step))
  refine codeAny_call_builtin F.attrBase_ValueError.ga.plain F.entry_bexc_ga (wpAny_check_ga_own F.attrBase_ValueError h1 u.tail hx hc (class_entry_own x u hx hc ?_))
  repeat (any_goals (first | assumption | wp_step))
theorem class_attr_own {Q : Option Value → Shared → Prop} (x : ExcAt h C up) (u : Ups h up) (hx : h.get? a = some o) (hc : o.cls = .ref C) (hq : Q (some (.ref C)) ⟨h, g, d, t + 1, os⟩) : wpAny (model prog w) A (getAttr? (.ref a) "__class__") Q E ⟨h, g, d, t, os⟩ := by
  unfold getAttr? getAttrBy?
  repeat (any_goals (first | assumption | with_reducible apply class_by_own x u hx hc | wp_step))
/-- asked for an own class -/
theorem isi_own {Q : Value → Shared → Prop} (x : ExcAt h C up) (u : Ups h up) (y : ExcAt h D up') (hx : h.get? a = some o) (hc : o.cls = .ref C)
    (hq : ∀ tk, Q (.bool ((Value.ref C :: (up.map Value.ref ++ veBm)).contains (.ref D))) ⟨h, g, d, tk, os⟩) : wpAny (model prog w) A (call (.builtin "isinstance") [.ref a, .ref D]) Q E ⟨h, g, d, t, os⟩ := by
  refine call_isinstance_of ?_ (by intro e; cases e)
  have x' := x
  obtain ⟨N, nm, q, bs, hdct, sn, sub, ab, col, dd, k0, k1, k2, k3, k5, mN, h1, h2, h3⟩ := x'
  obtain ⟨N', nm', q', bs', hdct', sn', sub', ab', col', dd', k0', k1', k2', k3', k5', mN', h1', h2', h3'⟩ := y
  by_cases he : (Value.ref C == Value.ref D) = true
  · have hh : (Value.ref C :: (up.map Value.ref ++ veBm)).contains (.ref D) = true := by rw [List.contains_cons, show (Value.ref D == Value.ref C) = true by rw [beq_iff_eq] at he ⊢; exact he.symm]; rfl
    rw [hh] at hq
    have hq' := hq t
    unfold Builtin.«isinstance.nested»
    repeat (any_goals (first | assumption | (with_reducible refine wpAny_loadPart_at hx ?_; rw [hc]) | wp_step))
  · have he' : (Value.ref C == Value.ref D) = false := by simpa using he
    cases hb : (Value.ref C :: (up.map Value.ref ++ veBm)).contains (.ref D) with
    | true =>
      rw [hb] at hq
      have hq' := hq t
      unfold Builtin.«isinstance.nested»
      repeat (any_goals (first | assumption | (with_reducible refine wpAny_loadPart_at hx ?_; rw [hc]) | with_reducible refine wpAny_loadPart_at h1' ?_ | (with_reducible refine wpAny_isSubtype_exc h1 ?_; rw [hb]) | wp_step))
    | false =>
      rw [hb] at hq
      have hq' := hq (t + 1)
      unfold Builtin.«isinstance.nested»
      repeat (any_goals (first | assumption | (with_reducible refine wpAny_loadPart_at hx ?_; rw [hc]) | with_reducible refine wpAny_loadPart_at h1' ?_ | with_reducible refine wpAny_loadPart_at h1 ?_ | (with_reducible refine wpAny_isSubtype_exc h1 ?_; rw [hb]) | with_reducible refine class_attr_own x u hx hc ?_ | wp_step))
/-- asked for ValueError -/
theorem isi_ve {Q : Value → Shared → Prop} (x : ExcAt h C up) (hx : h.get? a = some o) (hc : o.cls = .ref C)
    (hq : Q (.bool true) ⟨h, g, d, t, os⟩) : wpAny (model prog w) A (call (.builtin "isinstance") [.ref a, .type "ValueError"]) Q E ⟨h, g, d, t, os⟩ := by
  refine call_isinstance_of ?_ (by intro e; cases e)
  have hty : typeOf (.type "ValueError") = pure (.type "type") := by kernel_rfl
  have hb : (Value.ref C :: (up.map Value.ref ++ veBm)).contains (.type "ValueError") = true := by simp [veBm]
  have he' : (Value.ref C == Value.type "ValueError") = false := rfl
  obtain ⟨N, nm, q, bs, hdct, sn, sub, ab, col, dd, k0, k1, k2, k3, k5, mN, h1, h2, h3⟩ := x
  unfold Builtin.«isinstance.nested»
  repeat (any_goals (first | assumption | (with_reducible refine wpAny_loadPart_at hx ?_; rw [hc]) | (with_reducible refine wpAny_isSubtype_exc h1 ?_; rw [hb]) | wp_step))
end
end Mine
set_option maxHeartbeats 1000000
namespace Mine
open PySem PyProof.Rows PySem.SeqAt PySem.Calls

/-! raise, try -/
/-- what is known of the text's own classes -/
structure ExcC (C : Cx) (aA : Addr) (ca : Nat → Addr) : Prop where
  mgA : C.mg (Str.ofString "AskError") = some (.ref aA)
  atA : ExcAt C.base aA []
  mg : ∀ c, C.mg (excNm c) = some (.ref (ca c))
  at_ : ∀ c, ExcAt C.base (ca c) [aA]
  n01 : ca 0 ≠ ca 1
  n02 : ca 0 ≠ ca 2
  n12 : ca 1 ≠ ca 2
  nA : ∀ c, ca c ≠ aA
  ve : C.mg (Str.ofString "ValueError") = none ∧ C.mb (Str.ofString "ValueError") = some (.type "ValueError")

section
variable {C : Cx} {d : Nat} {σ : Sc} {aA : Addr} {ca : Nat → Addr}
theorem ExcC.ups (x : ExcC C aA ca) : Ups C.base [aA] := .cons x.atA .nil
noncomputable def raiseS (c : Nat) : ST := fun _ H _ X => X c H
theorem sim_raise {x a : Str} {c k : Nat} {np cp cpos pos : Pos} (hC : CxOK C) (hX : ExcC C aA ca) (hx : x = excNm c) (hg : σ.glob x = true) : SimS C d σ (.Raise (some (.Call (.Name x np) [.Constant (.str a) k cp] [] cpos)) none pos) (raiseS c) := by
  intro env P own A W ρ H s Q X QQ E hK hO hA S vs ht hQ hE
  subst hx
  obtain ⟨N, nm, q, bs, hdct, sn, sub, ab, col, dd, k0, k1, k2, k3, k5, mN, h1, h2, h3⟩ := hX.at_ c
  refine wpAny_Raise_call_subU (C := ca c) (nm := nm) (q := q) (N := N) (bs := bs) (bm := [aA].map Value.ref ++ veBm) (hdct := hdct) (sn := sn) (sub := sub) (ab := ab) (col := col) (dd := dd) (k0 := k0) (k1 := k1) (k2 := k2) (k3 := k3) (k5 := k5)
    F.excBase_ValueError (by decide) F.excBase_ValueError (mN := mN) (by simp [veBm]) hA.handled rfl (h3 _ (.tail _ (.head _))) (name_glob hC (hX.mg c) hg hK S ⟨rfl, ?_⟩)
  rw [backTo_plain rfl]
  refine Calls.evalArgs_plain (Calls.spliced_cons (Calls.Constant_str (Calls.spliced_nil ⟨rfl, (by show 1 ≤ sizeLine; decide), S.up _ _ h1, h2.keeps S.up, (hX.ups.keeps S.up).tail.tail, fun h' e hm => ?_⟩)))
  obtain ⟨t, he, _, _⟩ := hm.there
  refine hE W ρ H _ c _ (.refl W) ((S.tok _).keeps hm.keeps rfl rfl) (vs.keeps hm.keeps) ⟨e, ca c, rfl, hX.mg c, S.looseNew hm.new, _, _, he, rfl, rfl, (by show 1 < 6; decide), .inl ⟨rfl, rfl⟩⟩ ht

/-- a call of which the value is dropped -/
noncomputable def exprA (t : ET) : ST := fun ρ H Q X => t ρ H (fun _ H1 => Q .next ρ H1) X
theorem sim_exprA {f : Expr} {args : List Expr} {p pos : Pos} {t : ET} (h : SimE C d σ (.Call f args [] p) t) : SimS C d σ (.Expr (.Call f args [] p) pos) (exprA t) := by
  intro env P own A W ρ H s Q X QQ E hK hO hA S vs ht hQ hE
  exact wpAny_Expr_any (h env P own A W ρ H s _ X _ E hK hA S vs ht (fun W₁ H₁ s₁ v x le₁ S₁ vs₁ r₁ q₁ => hQ W₁ ρ H₁ s₁ _ _ le₁ S₁ vs₁ .next q₁) fun W' H' s' => hE W' ρ H' s') (interactive_function (hK.scope ▸ hK.kind)) rfl

noncomputable def refW (c : Nat) : Str := Str.ofString (match c with | 0 => "tall" | 1 => "piece" | _ => "name")
noncomputable def trK (Q : Fl → Rho → Hp → Prop) (c : Nat) (H : Hp) : Prop := Q (.ret (.str (refW c))) (fun _ => none) H
/-- the refusal's try -/
noncomputable def tryS (t : ST) : ST := fun ρ H Q _ => t ρ H Q (trK Q)

/-- how it stands in the handler -/
structure InH (C : Cx) (P : Fz) (own : List Addr) (W : Wd) (H : Hp) (L a C₁ : Addr) (y : Option Str) (s : Shared) : Prop where
  S : St C P own W H s
  e : ∃ m, s.heap.Ns L m ∧ m (Str.ofString "e") = some (.ref a) ∧ ∀ x, y = some x → ∃ t, m (Str.ofString "_law_found") = some (.str x t)
  o : ∃ o, s.heap.get? a = some o ∧ o.cls = .ref C₁
theorem InH.tok {P : Fz} {own : List Addr} {W : Wd} {H : Hp} {L a C₁ : Addr} {y : Option Str} {s : Shared} (x : InH C P own W H L a C₁ y s) (t : Nat) : InH C P own W H L a C₁ y { s with toks := t } := ⟨x.S.tok t, x.e, x.o⟩
noncomputable def refOK (σ : Sc) : Bool := ["int", "isinstance", "AskError", "BadPiece", "BadName", "TooTall", "ValueError"].all (fun f => σ.glob (Str.ofString f)) && σ.scope.names.lookup (Str.ofString "e") == some .local && σ.scope.names.lookup (Str.ofString "_law_found") == some .local
theorem ref_glob {σ : Sc} (h : refOK σ = true) {f : String} (hf : f ∈ ["int", "isinstance", "AskError", "BadPiece", "BadName", "TooTall", "ValueError"]) : σ.glob (Str.ofString f) = true := by
  simp only [refOK, Bool.and_eq_true] at h
  exact List.all_eq_true.mp h.1.1 f hf
theorem ref_e {σ : Sc} (h : refOK σ = true) : σ.scope.names.lookup (Str.ofString "e") = some .local := by
  simp only [refOK, Bool.and_eq_true, beq_iff_eq] at h; exact h.1.2
theorem ref_f {σ : Sc} (h : refOK σ = true) : σ.scope.names.lookup (Str.ofString "_law_found") = some .local := by
  simp only [refOK, Bool.and_eq_true, beq_iff_eq] at h; exact h.2
theorem excNm_glob {σ : Sc} (h : refOK σ = true) (k : Nat) : σ.glob (excNm k) = true := by
  match k with
  | 0 => exact ref_glob h (f := "TooTall") (by simp)
  | 1 => exact ref_glob h (f := "BadPiece") (by simp)
  | _ + 2 => exact ref_glob h (f := "BadName") (by simp)

variable {P : Fz} {own : List Addr} {W : Wd} {H : Hp} {s : Shared} {A : Around} {env : Env} {a C₁ : Addr} {y : Option Str} {E : Value → Shared → Prop} {Q : Value → Shared → Prop}
theorem InH.load (hK : EnvOK σ own env) (hr : refOK σ = true) (Z : InH C P own W H env.locals a C₁ y s) {p : Pos} (h : Q (.ref a) s) : wpAny (model C.prog C.w) A (eval (.Name (Str.ofString "e") p) env) Q E s := by
  obtain ⟨m, h1, h2, _⟩ := Z.e
  refine wpAny_Name (wpAny_loadName_local (hK.scope ▸ hK.kind) (by show env.scope.names.lookup _ = _; rw [hK.scope]; exact ref_e hr) h1 h2 h) (by decide)
theorem InH.loadF {x : Str} (hK : EnvOK σ own env) (hr : refOK σ = true) (Z : InH C P own W H env.locals a C₁ (some x) s) {p : Pos} (h : ∀ t, Q (.str x t) s) : wpAny (model C.prog C.w) A (eval (.Name (Str.ofString "_law_found") p) env) Q E s := by
  obtain ⟨m, h1, _, h2⟩ := Z.e
  obtain ⟨t, h2⟩ := h2 x rfl
  refine wpAny_Name (wpAny_loadName_local (hK.scope ▸ hK.kind) (by show env.scope.names.lookup _ = _; rw [hK.scope]; exact ref_f hr) h1 h2 (h t)) (by decide)
/-- isinstance(e, K) -/
theorem InH.isi (hC : CxOK C) (hX : ExcC C aA ca) (hK : EnvOK σ own env) (hr : refOK σ = true) {c : Nat} (k : Nat) {n : Str} (hn : n = excNm k) (Z : InH C P own W H env.locals a (ca c) y s) {p1 p2 p3 p4 : Pos}
    (h : ∀ t, Q (.bool ((Value.ref (ca c) :: ([aA].map Value.ref ++ veBm)).contains (.ref (ca k)))) { s with toks := t }) :
    wpAny (model C.prog C.w) A (eval (.Call (.Name (Str.ofString "isinstance") p1) [.Name (Str.ofString "e") p2, .Name n p3] [] p4) env) Q E s := by
  subst hn
  refine wpAny_Call_Name_kw (name_blt hC (by decide) (ref_glob hr (by simp)) hK Z.S ?_)
  rw [backTo_plain rfl]
  refine callWith_blt (Calls.spliced_cons (Z.load hK hr (Calls.spliced_cons (name_glob hC (hX.mg k) (excNm_glob hr k) hK Z.S (Calls.spliced_nil ?_)))))
  obtain ⟨o, h1, h2⟩ := Z.o
  have up := Z.S.up
  obtain ⟨hp, g, dr, tk, os⟩ := s
  exact isi_own ((hX.at_ c).keeps up) (hX.ups.keeps up) ((hX.at_ k).keeps up) h1 h2 h
/-- int(..) of a bool -/
theorem int_of (hC : CxOK C) (hK : EnvOK σ own env) (hr : refOK σ = true) (S : St C P own W H s) {e : Expr} {p1 p2 : Pos} (hs : noStar [e] = true)
    (h : wpAny (model C.prog C.w) A (eval e env) (fun v s₁ => ∃ b, v = .bool b ∧ ∀ t t', Q (.int (if b then 1 else 0) t) { s₁ with toks := t' }) E s) :
    wpAny (model C.prog C.w) A (eval (.Call (.Name (Str.ofString "int") p1) [e] [] p2) env) Q E s := by
  refine wpAny_Call_Name_kw (name_blt hC (by decide) (ref_glob hr (by simp)) hK S ?_)
  rw [backTo_plain hs]
  refine callWith_blt (Calls.spliced_cons (wpAny_mono h (fun v s₁ h₁ => ?_) fun _ _ x => x))
  obtain ⟨b, rfl, h₁⟩ := h₁
  refine Calls.spliced_nil ?_
  show wpAny _ A (call (.type "int") [.bool b]) _ _ _
  exact call_int_bool (h₁ _ _)
/-- a text, once or never -/
theorem once_ {x : Str} {t u : Tok} {b : Bool} (h : ∀ t t', Q (.str (if b then x else Str.empty) t) { s with toks := t' }) : wpAny (model C.prog C.w) A (binaryOp .Mult (.str x t) (.int (if b then 1 else 0) u)) Q E s := by
  cases b with
  | false => exact PySem.P.mul_str_none (by decide) (by decide) (h _ _)
  | true => exact PySem.P.mul_str (by decide) (fun _ q => nomatch q) (fun _ q => nomatch q) (h t s.toks)
theorem InH.term (hC : CxOK C) (hX : ExcC C aA ca) (hK : EnvOK σ own env) (hr : refOK σ = true) {c kk : Nat} (k : Nat) {n : Str} (hn : n = excNm k) (Z : InH C P own W H env.locals a (ca c) y s) {x : Str} {p1 p2 p3 p4 p5 p6 p7 p8 : Pos}
    (h : ∀ t t', Q (.str (if (Value.ref (ca c) :: ([aA].map Value.ref ++ veBm)).contains (.ref (ca k)) then x else Str.empty) t) { s with toks := t' }) :
    wpAny (model C.prog C.w) A (eval (.BinOp (.Constant (.str x) kk p1) .Mult (.Call (.Name (Str.ofString "int") p2) [.Call (.Name (Str.ofString "isinstance") p3) [.Name (Str.ofString "e") p4, .Name n p5] [] p6] [] p7) p8) env) Q E s := by
  refine wpAny_BinOp (Calls.Constant_str ?_)
  refine int_of hC hK hr (Z.S.tok _) rfl (InH.isi hC hX hK hr k hn (Z.tok _) fun t => ⟨_, rfl, fun t₁ t₂ => once_ h⟩)
theorem InH.termV (hC : CxOK C) (hX : ExcC C aA ca) (hK : EnvOK σ own env) (hr : refOK σ = true) {c kk : Nat} (Z : InH C P own W H env.locals a (ca c) y s) {x : Str} {p1 p2 p3 p4 p5 p6 p7 p8 p9 : Pos}
    (h : ∀ t t', Q (.str Str.empty t) { s with toks := t' }) :
    wpAny (model C.prog C.w) A (eval (.BinOp (.Constant (.str x) kk p1) .Mult (.Call (.Name (Str.ofString "int") p2) [.UnaryOp .Not (.Call (.Name (Str.ofString "isinstance") p3) [.Name (Str.ofString "e") p4, .Name (Str.ofString "ValueError") p5] [] p6) p9] [] p7) p8) env) Q E s := by
  refine wpAny_BinOp (Calls.Constant_str ?_)
  have Z' := Z.tok (s.toks + 1)
  refine int_of hC hK hr Z'.S rfl (UnaryOp_ (wpAny_Call_Name_kw (name_blt hC (by decide) (ref_glob hr (by simp)) hK Z'.S ?_)))
  rw [backTo_plain rfl]
  obtain ⟨h1, h2⟩ := Sc.glob_spec (ref_glob hr (f := "ValueError") (by simp))
  refine callWith_blt (Calls.spliced_cons (Z'.load hK hr (Calls.spliced_cons (Calls.Name_function_global (hK.scope ▸ hK.kind) (by show env.scope.names.lookup _ = _; rw [hK.scope]; exact h1) (Calls.loadGlobal_builtin (by rw [hK.globals]; exact hC.g.keeps Z'.S.up) hX.ve.1 (by rw [hK.builtins]; exact hC.b.keeps Z'.S.up) hX.ve.2 (Calls.spliced_nil ?_)) h2))))
  obtain ⟨o, g1, g2⟩ := Z'.o
  have up := Z'.S.up
  obtain ⟨hp, g, dr, tk, os⟩ := s
  exact isi_ve ((hX.at_ c).keeps up) g1 g2 (not_of (wpAny_truthy_bool ⟨_, rfl, fun t₁ t₂ => once_ (b := false) h⟩))
theorem add_two {u v : Str} {t t' : Tok} (hsz : u.length + v.length ≤ sizeLine) (h : ∀ t t', Q (.str (u ++ v) t) { s with toks := t' }) : wpAny (model C.prog C.w) A (binaryOp .Add (.str u t) (.str v t')) Q E s := by
  refine PySem.P.add_str ?_
  by_cases h0 : u.length = 0
  · rw [if_pos (by simp [h0])]
    have : u ++ v = v := by
      have e : u = Str.empty := by
        obtain ⟨cps⟩ := u
        have : cps = #[] := Array.eq_empty_of_size_eq_zero h0
        subst this; rfl
      rw [e, Str.empty_append]
    rw [this] at h; exact h _ s.toks
  · rw [if_neg (by simpa using h0)]
    by_cases h1 : v.length = 0
    · rw [if_pos (by simp [h1])]
      have : u ++ v = u := by
        have e : v = Str.empty := by
          obtain ⟨cps⟩ := v
          have : cps = #[] := Array.eq_empty_of_size_eq_zero h1
          subst this; rfl
        rw [e, Str.append_empty]
      rw [this] at h; exact h _ s.toks
    · rw [if_neg (by simpa using h1)]
      exact ⟨by rw [strLen_append]; exact hsz, h _ _⟩

theorem has_same (hX : ExcC C aA ca) (c k : Nat) : (Value.ref (ca c) :: ([aA].map Value.ref ++ veBm)).contains (.ref (ca k)) = decide (ca c = ca k) := by
  by_cases h : ca c = ca k
  · simp [h]
  · have h1 := hX.nA k
    simp [h, veBm, Ne.symm h, h1]
theorem ca_two (hX : ExcC C aA ca) (n : Nat) : ca (n + 2) = ca 2 := by
  have h1 := hX.mg (n + 2)
  have h2 := hX.mg 2
  have e : excNm (n + 2) = excNm 2 := rfl
  rw [e, h2] at h1
  injection h1 with h1
  injection h1 with h1
  exact h1.symm
noncomputable def onceS (b : Bool) (x : Str) : Str := if b then x else Str.empty
/-- the text that the handler puts together -/
theorem ref_text (hX : ExcC C aA ca) (c : Nat) : ((onceS (decide (ca c = ca 1)) (Str.ofString "piece") ++ onceS (decide (ca c = ca 2)) (Str.ofString "name")) ++ onceS (decide (ca c = ca 0)) (Str.ofString "tall")) ++ Str.empty = refW c := by
  have h1 := hX.n01
  have h2 := hX.n02
  have h3 := hX.n12
  match c with
  | 0 => simp only [h1, h2, decide_false, decide_true]; decide
  | 1 => simp only [Ne.symm h1, h3, decide_false, decide_true]; decide
  | n + 2 => rw [ca_two hX]; simp only [Ne.symm h2, Ne.symm h3, decide_false, decide_true]; show _ = refW 2; decide
theorem once_len (b : Bool) (x : Str) : (onceS b x).length ≤ x.length := by
  cases b
  · exact Nat.zero_le _
  · exact Nat.le_refl _
end
end Mine
set_option maxHeartbeats 400000
namespace Mine
open PySem PyProof.Rows PySem.SeqAt PySem.Calls
section
variable {C : Cx} {d : Nat} {σ : Sc} {aA : Addr} {ca : Nat → Addr}
theorem sim_try {body : List Stmt} {tb : ST} {k1 k2 k3 k4 : Nat} {p1 p2 p3 p4 p5 p6 p7 p8 p9 q1 q2 q3 q4 q5 q6 q7 q8 r1 r2 r3 r4 r5 r6 r7 r8 t1 t2 t3 t4 t5 t6 t7 t8 t9 u1 u2 u3 u4 u5 v1 v2 v3 v4 : Pos} (hC : CxOK C) (hX : ExcC C aA ca) (hb : SimSs C d σ body tb) (hr : refOK σ = true) :
    SimS C d σ (.Try body [.ExceptHandler (some (.Name (Str.ofString "AskError") p1)) (some (Str.ofString "e")) [
      .Assign [.Name (Str.ofString "_law_found") p2] (.BinOp
        (.BinOp (.Constant (.str (Str.ofString "piece")) k1 p3) .Mult (.Call (.Name (Str.ofString "int") p4) [.Call (.Name (Str.ofString "isinstance") p5) [.Name (Str.ofString "e") p6, .Name (Str.ofString "BadPiece") p7] [] p8] [] p9) q1) .Add
        (.BinOp (.Constant (.str (Str.ofString "name")) k2 q2) .Mult (.Call (.Name (Str.ofString "int") q3) [.Call (.Name (Str.ofString "isinstance") q4) [.Name (Str.ofString "e") q5, .Name (Str.ofString "BadName") q6] [] q7] [] q8) r1) r2) r3,
      .Return (some (.BinOp (.BinOp (.Name (Str.ofString "_law_found") r4) .Add
        (.BinOp (.Constant (.str (Str.ofString "tall")) k3 r5) .Mult (.Call (.Name (Str.ofString "int") r6) [.Call (.Name (Str.ofString "isinstance") r7) [.Name (Str.ofString "e") r8, .Name (Str.ofString "TooTall") t1] [] t2] [] t3) t4) t5) .Add
        (.BinOp (.Constant (.str (Str.ofString "none")) k4 t6) .Mult (.Call (.Name (Str.ofString "int") t7) [.UnaryOp .Not (.Call (.Name (Str.ofString "isinstance") t8) [.Name (Str.ofString "e") t9, .Name (Str.ofString "ValueError") u1] [] u2) u3] [] u4) u5) v1)) v2] v3] [] [] v4) (tryS tb) := by
  intro env P own A W ρ H s Q X QQ E hK hO hA S vs ht hQ hE
  have hkind : env.scope.kind = .function := hK.scope ▸ hK.kind
  have hle : env.kindOf (Str.ofString "e") = some .local := by show env.scope.names.lookup _ = _; rw [hK.scope]; exact ref_e hr
  have hlf : env.kindOf (Str.ofString "_law_found") = some .local := by show env.scope.names.lookup _ = _; rw [hK.scope]; exact ref_f hr
  refine wpAny_Try_except (hb env P own A W ρ H s _ _ _ _ hK hO hA S vs ht (fun W₁ ρ₁ H₁ s₁ fl x le₁ S₁ vs₁ r₁ q₁ => ?_) fun W₁ ρ₁ H₁ s₁ c e le₁ S₁ vs₁ f₁ q₁ => ?_)
  · cases r₁ with
    | next => exact wpAny_execs_nil (hQ W₁ ρ₁ H₁ s₁ _ _ le₁ S₁ vs₁ .next q₁)
    | brk => exact hQ W₁ ρ₁ H₁ s₁ _ _ le₁ S₁ vs₁ .brk q₁
    | cont => exact hQ W₁ ρ₁ H₁ s₁ _ _ le₁ S₁ vs₁ .cont q₁
    | ret r => exact hQ W₁ ρ₁ H₁ s₁ _ _ le₁ S₁ vs₁ (.ret r) q₁
  · refine f₁.note hK hO hA.frs S₁ vs₁ fun s₂ S₂ vs₂ f₂ => f₂.flight hK S₂ vs₂ fun s₃ S₃ vs₃ f₃ => ?_
    have f₃' := f₃
    obtain ⟨a, ca', rfl, hmc, h0, oe, ws, he, hcl, hd, hsz, _⟩ := f₃'
    have hcc : ca' = ca c := by rw [hX.mg c] at hmc; cases hmc; rfl
    subst hcc
    refine wpAny_handleBy_cons (codeAny_handlers_test (name_glob hC hX.mgA (ref_glob hr (by simp)) hK S₃ ?_)) (by intro q; cases q)
    have up := S₃.up
    obtain ⟨hp, g, dr, tk, os⟩ := s₃
    refine match_own ((hX.at_ c).keeps up) (hX.atA.keeps up) he hcl (by simp) ?_
    refine codeAny_handlers_suite_as (f₃.flight hK S₃ vs₃ fun s₄ S₄ vs₄ f₄ => ?_)
    obtain ⟨a', ca', ea, hmc', h0', oe', ws', he', hcl', _⟩ := f₄
    cases ea
    have hcc : ca' = ca c := by rw [hX.mg c] at hmc'; cases hmc'; rfl
    subst hcc
    obtain ⟨m, hns, _⟩ := vs₄.ns
    have hne : a ≠ env.locals := fun q => h0'.own (q ▸ hK.loc)
    refine wpAny_storeName_local hle hns (fun h₅ hn₅ hsb₅ => ?_) (by rw [hkind]; rfl)
    have S₅ := S₄.own_upd (s' := { s₄ with heap := h₅, toks := s₄.toks + 1 }) hK.loc hsb₅ (let ⟨o, _, _, e, f, _⟩ := hn₅; ⟨o, e, fun _ q => nomatch (f.symm.trans q)⟩) rfl rfl
    have Z₅ : InH C P own W₁ H₁ env.locals a (ca c) none { s₄ with heap := h₅, toks := s₄.toks + 1 } := ⟨S₅, ⟨_, hn₅, by simp, nofun⟩, ⟨oe', (hsb₅.2 a hne).trans he', hcl'⟩⟩
    refine wpAny_execs_cons (wpAny_Assign_Name ?_ rfl)
    refine wpAny_BinOp ?_
    refine InH.term hC hX hK hr 1 (n := Str.ofString "BadPiece") rfl Z₅ fun t t' => ?_
    refine InH.term hC hX hK hr 2 (n := Str.ofString "BadName") rfl (Z₅.tok t') fun t₁ t₁' => ?_
    refine add_two ?_ fun t₂ t₂' => ?_
    · have h1 := once_len ((Value.ref (ca c) :: ([aA].map Value.ref ++ veBm)).contains (.ref (ca 1))) (Str.ofString "piece")
      have h2 := once_len ((Value.ref (ca c) :: ([aA].map Value.ref ++ veBm)).contains (.ref (ca 2))) (Str.ofString "name")
      exact Nat.le_trans (Nat.add_le_add h1 h2) (by decide)
    rw [has_same hX, has_same hX]
    refine wpAny_storeName_local hlf hn₅ (fun h₆ hn₆ hsb₆ => ?_) (by rw [hkind]; rfl)
    have S₆ := (S₅.tok t₂').own_upd (s' := { s₄ with heap := h₆, toks := t₂' + 1 }) hK.loc hsb₆ (let ⟨o, _, _, e, f, _⟩ := hn₆; ⟨o, e, fun _ q => nomatch (f.symm.trans q)⟩) rfl rfl
    have Z₆ : InH C P own W₁ H₁ env.locals a (ca c) (some (onceS (decide (ca c = ca 1)) (Str.ofString "piece") ++ onceS (decide (ca c = ca 2)) (Str.ofString "name"))) { s₄ with heap := h₆, toks := t₂' + 1 } :=
      ⟨S₆, ⟨_, hn₆, by rw [if_neg (by decide)]; simp, fun x q => by cases q; exact ⟨t₂, by simp [onceS]⟩⟩, ⟨oe', (hsb₆.2 a hne).trans ((hsb₅.2 a hne).trans he'), hcl'⟩⟩
    refine wpAny_execs_cons (wpAny_Return_some ?_)
    refine wpAny_BinOp (wpAny_BinOp ?_)
    refine Z₆.loadF hK hr fun t₃ => ?_
    refine InH.term hC hX hK hr 0 (n := Str.ofString "TooTall") rfl Z₆ fun t₄ t₄' => ?_
    refine add_two ?_ fun t₅ t₅' => ?_
    · have h1 := once_len (decide (ca c = ca 1)) (Str.ofString "piece")
      have h2 := once_len (decide (ca c = ca 2)) (Str.ofString "name")
      have h3 := once_len ((Value.ref (ca c) :: ([aA].map Value.ref ++ veBm)).contains (.ref (ca 0))) (Str.ofString "tall")
      rw [strLen_append]
      exact Nat.le_trans (Nat.add_le_add (Nat.add_le_add h1 h2) h3) (by decide)
    refine InH.termV hC hX hK hr (Z₆.tok t₅') fun t₆ t₆' => ?_
    refine add_two ?_ fun t₇ t₇' => ?_
    · have h1 := once_len (decide (ca c = ca 1)) (Str.ofString "piece")
      have h2 := once_len (decide (ca c = ca 2)) (Str.ofString "name")
      have h3 := once_len ((Value.ref (ca c) :: ([aA].map Value.ref ++ veBm)).contains (.ref (ca 0))) (Str.ofString "tall")
      rw [strLen_append, strLen_append]
      exact Nat.le_trans (Nat.add_le_add (Nat.add_le_add (Nat.add_le_add h1 h2) h3) (Nat.le_refl _)) (by decide)
    obtain ⟨m₆, hns₆, _⟩ := Z₆.e
    refine wpAny_nameGoes hle hns₆ (by rw [hkind]; rfl) fun h₇ m₇ hn₇ hsb₇ => ?_
    have S₇ := (S₆.tok t₇').own_upd (s' := { s₄ with heap := h₇, toks := t₇' + 1 }) hK.loc hsb₇ (let ⟨o, _, _, e, f, _⟩ := hn₇; ⟨o, e, fun _ q => nomatch (f.symm.trans q)⟩) rfl rfl
    rw [has_same hX]
    refine hQ W₁ (fun _ => none) H₁ _ (.ret (.str (refW c))) _ le₁ S₇ ⟨⟨m₇, hn₇, nofun⟩, fun x i hx hc => ?_⟩ (.ret ?_) q₁
    · obtain ⟨c', cv, g1, g2, g3, g4, _⟩ := vs₄.cell x i hx hc
      exact ⟨c', cv, g1, ((g2.sameBut hsb₅ g4).sameBut hsb₆ g4).sameBut hsb₇ g4, g3, g4, nofun⟩
    · rw [← ref_text hX c]
      exact .str ..
end
end Mine
namespace Mine
open PySem PyProof.Rows PySem.SeqAt PySem.Calls

section
variable {C : Cx} {d : Nat} {σ : Sc}

/-! constants of the modules -/
noncomputable def IsConst (C : Cx) (x : Str) (v : V) : Prop := ∃ y, C.mg x = some y ∧ ∀ W : Wd, (∀ a o, C.base.get? a = some o → W.F a = some o) → Rep C W v y
noncomputable def gk (v : V) : ET := fun _ H Q _ => Q v H
theorem sim_gk {x : Str} {v : V} {p : Pos} (hC : CxOK C) (h : IsConst C x v) (hg : σ.glob x = true) : SimE C d σ (.Name x p) (gk v) := by
  intro env P own A W ρ H s Q X QQ E hK hA S vs ht hQ hE
  obtain ⟨y, h1, h2⟩ := h
  exact name_glob hC h1 hg hK S (hQ W H s v y (.refl W) S vs (h2 W S.base) ht)

/-! int(b); {} that is not changed -/
noncomputable def bIntB (t : ET) : ET := fun ρ H Q X => t ρ H (fun v H1 => gotB v fun b => Q (.int (if b then 1 else 0)) H1) X
theorem sim_intB {e : Expr} {t : ET} {p pos : Pos} (hC : CxOK C) (h : SimE C d σ e t) (hg : σ.glob "int" = true) (hs : noStar [e] = true) : SimE C d σ (.Call (.Name (Str.ofString "int") p) [e] [] pos) (bIntB t) := by
  intro env P own A W ρ H s Q X QQ E hK hA S vs ht hQ hE
  refine call_blt1 hC (by decide) hg h hs hK hA S vs ht (fun W' H' s' v x le S' vs' r q => ?_) hE
  obtain ⟨b, rfl, q⟩ := gotB.ex q
  cases r
  show wpAny _ A (call (.type "int") [.bool b]) QQ E s'
  exact call_int_bool (hQ W' H' _ _ _ le (S'.tok _) vs' (.int ..) q)
noncomputable def mkD0 : ET := fun _ H Q _ => Q (.dct []) H
theorem sim_dictF (hM : Mods C) {pos : Pos} : SimE C d σ (.Dict [] [] pos) mkD0 := by
  intro env P own A W ρ H s Q X QQ E hK hA S vs ht hQ hE
  refine wpAny_Dict_empty ?_
  obtain ⟨o, ho, hd⟩ := Heap.dictOf_iff.mp (Heap.DictOf.new (knd := strKind C.prog C.w) s.heap)
  obtain ⟨le, S'⟩ := S.addF (s' := { s with heap := s.heap.push { cls := .type "dict", data := .dict #[] } }) (Heap.push_keeps _) (Heap.none_size _) ho rfl rfl
  exact hQ _ _ _ _ _ le S' ((vs.keeps (Heap.push_keeps _)).mono le) (.dct (Wd.addF_at ..) hd (hM.ne S (S.fresh (Heap.none_size _)).1) .nil) ht

/-! a <= b <= c -/
theorem Compare2 {M : Model} {A : Around} {E : Value → Shared → Prop} {s : Shared} {env : Env} {l m r : Expr} {o1 o2 : CmpOp} {pos : Pos} {Q : Value → Shared → Prop}
    (h : wpAny M A (eval l env) (fun a s₁ => wpAny M A (eval m env) (fun b s₂ => wpAny M A (compareOp o1 a b) (fun c s₃ => wpAny M A (truthy c) (fun t s₄ => if t = true then wpAny M A (eval r env) (fun z s₅ => wpAny M A (compareOp o2 b z) Q E s₅) E s₄ else Q c s₄) E s₃) E s₂) E s₁) E s)
    (hm : behindInMarks o2 r = false) : wpAny M A (eval (.Compare l [o1, o2] [m, r] pos) env) Q E s := by
  show wpAny M A (do let a ← eval l env; compareChain pos a [o1, o2] [eval m env, markedBehindIn o2 r (eval r env)]) Q E s
  rw [markedBehindIn_of_false hm]
  refine wpAny_bind (wpAny_mono h (fun a s₁ h₁ => ?_) fun _ _ x => x)
  show wpAny M A (do
    let rv ← holding [a] (eval m env)
    standAt pos
    let c ← holding [a, rv] (compareOp o1 a rv)
    release [a, rv] [c]
    if ← holding [c, rv] (truthy c) then (do
      let zv ← holding [rv] (eval r env)
      standAt pos
      operate [rv, zv] (compareOp o2 rv zv)) else pure c) Q E s₁
  refine wpAny_bind (wpAny_holding (wpAny_mono h₁ (fun b s₂ h₂ => ?_) fun _ _ x => x))
  refine wpAny_bind (wpAny_standAt (wpAny_bind (wpAny_holding (wpAny_mono h₂ (fun c s₃ h₃ => ?_) fun _ _ x => x))))
  refine wpAny_bind (wpAny_release (wpAny_bind (wpAny_holding (wpAny_mono h₃ (fun t s₄ h₄ => ?_) fun _ _ x => x))))
  cases t with
  | false => exact wpAny_pure h₄
  | true =>
    refine wpAny_bind (wpAny_holding (wpAny_mono h₄ (fun z s₅ h₅ => wpAny_bind (wpAny_standAt ?_)) fun _ _ x => x))
    exact fun Γ p hΓ => by rw [Sem.wp_operate]; exact h₅ Γ p hΓ
theorem isTrue_Compare2 {M : Model} {A : Around} {E : Value → Shared → Prop} {s : Shared} {env : Env} {l m r : Expr} {o1 o2 : CmpOp} {pos : Pos} {whole : Sem Value} {Q : Bool → Shared → Prop}
    (h : wpAny M A (eval l env) (fun a s₁ => wpAny M A (eval m env) (fun b s₂ => wpAny M A (compareOp o1 a b) (fun c s₃ => wpAny M A (truthy c) (fun t s₄ => if t = true then wpAny M A (eval r env) (fun z s₅ => wpAny M A (compareOp o2 b z) (fun c' s₆ => wpAny M A (truthy c') Q E s₆) E s₅) E s₄ else Q false s₄) E s₃) E s₂) E s₁) E s)
    (hm : behindInMarks o2 r = false) : wpAny M A (isTrue (.Compare l [o1, o2] [m, r] pos) env whole) Q E s := by
  show wpAny M A (do let a ← eval l env; testChain pos a [o1, o2] [eval m env, markedBehindIn o2 r (eval r env)]) Q E s
  rw [markedBehindIn_of_false hm]
  refine wpAny_bind (wpAny_mono h (fun a s₁ h₁ => ?_) fun _ _ x => x)
  show wpAny M A (do
    let rv ← holding [a] (eval m env)
    standAt pos
    let c ← holding [a, rv] (compareOp o1 a rv)
    release [a, rv] [c]
    if ← holding [c, rv] (truthy c) then (do
      let zv ← holding [rv] (eval r env)
      standAt pos
      let c' ← operate [rv, zv] (compareOp o2 rv zv)
      holding [c'] (truthy c')) else pure false) Q E s₁
  refine wpAny_bind (wpAny_holding (wpAny_mono h₁ (fun b s₂ h₂ => ?_) fun _ _ x => x))
  refine wpAny_bind (wpAny_standAt (wpAny_bind (wpAny_holding (wpAny_mono h₂ (fun c s₃ h₃ => ?_) fun _ _ x => x))))
  refine wpAny_bind (wpAny_release (wpAny_bind (wpAny_holding (wpAny_mono h₃ (fun t s₄ h₄ => ?_) fun _ _ x => x))))
  cases t with
  | false => exact wpAny_pure h₄
  | true =>
    refine wpAny_bind (wpAny_holding (wpAny_mono h₄ (fun z s₅ h₅ => wpAny_bind (wpAny_standAt (wpAny_bind ?_))) fun _ _ x => x))
    exact fun Γ p hΓ => by rw [Sem.wp_operate]; exact Sem.wp_mono _ Γ _ (fun c p s h => wpAny_holding h) (fun _ _ _ h => h) _ _ (h₅ Γ p hΓ)
noncomputable def c2D (op : CmpOp) (Q : V → Hp → Prop) (y z : V) (H : Hp) : Prop := got (cmpop op y z H) (boK Q H)
noncomputable def c2C (op : CmpOp) (c : ET) (ρ : Rho) (Q : V → Hp → Prop) (X : XP) (y : V) (H : Hp) (r : Bool) : Prop := Br (c ρ H (c2D op Q y) X) (Q (.bool false) H) r
noncomputable def c2B (o1 o2 : CmpOp) (c : ET) (ρ : Rho) (Q : V → Hp → Prop) (X : XP) (x y : V) (H : Hp) : Prop := got (cmpop o1 x y H) (c2C o2 c ρ Q X y H)
noncomputable def c2A (o1 o2 : CmpOp) (b c : ET) (ρ : Rho) (Q : V → Hp → Prop) (X : XP) (x : V) (H : Hp) : Prop := b ρ H (c2B o1 o2 c ρ Q X x) X
noncomputable def cmp2 (o1 o2 : CmpOp) (a b c : ET) : ET := fun ρ H Q X => a ρ H (c2A o1 o2 b c ρ Q X) X
noncomputable def asB (Q : Bool → Hp → Prop) (v : V) (H : Hp) : Prop := gotB v fun b => Q b H
noncomputable def tCmp2 (o1 o2 : CmpOp) (a b c : ET) : BT := fun ρ H Q X => cmp2 o1 o2 a b c ρ H (asB Q) X
theorem sim_cmp2 {l m r : Expr} {o1 o2 : CmpOp} {pos : Pos} {tl tm tr : ET} (h1 : SimE C d σ l tl) (h2 : SimE C d σ m tm) (h3 : SimE C d σ r tr) (hm : behindInMarks o2 r = false) : SimE C d σ (.Compare l [o1, o2] [m, r] pos) (cmp2 o1 o2 tl tm tr) := by
  intro env P own A W ρ H s Q X QQ E hK hA S vs ht hQ hE
  refine Compare2 (SimE.two h1 h2 hK hA S vs ht (fun W' H' s' a b x y le S' vs' ra rb hg => ?_) hE) hm
  obtain ⟨q, hq, hg⟩ := got.ex hg
  refine cmpop_sim S' ra rb hq (wpAny_truthy_bool ?_)
  cases q with
  | false => exact hQ W' H' s' _ _ le S' vs' (.bool _) (hg.f rfl)
  | true =>
    rw [if_pos rfl]
    refine h3 env P own A W' ρ H' s' _ X _ E hK hA S' vs' (hg.t rfl) (fun W₂ H₂ s₂ v z le₂ S₂ vs₂ r₂ q₂ => ?_) fun W₂ H₂ s₂ c e le₂ => hE W₂ H₂ s₂ c e (le.trans le₂)
    obtain ⟨q', hq', hg'⟩ := got.ex q₂
    exact cmpop_sim S₂ (rb.mono le₂) r₂ hq' (hQ W₂ H₂ s₂ _ _ (le.trans le₂) S₂ vs₂ (.bool _) hg')
theorem simT_cmp2 {l m r : Expr} {o1 o2 : CmpOp} {pos : Pos} {tl tm tr : ET} (h1 : SimE C d σ l tl) (h2 : SimE C d σ m tm) (h3 : SimE C d σ r tr) (hm : behindInMarks o2 r = false) : SimT C d σ (.Compare l [o1, o2] [m, r] pos) (tCmp2 o1 o2 tl tm tr) := by
  intro env P own A W ρ H s Q X QQ E hK hA S vs ht hQ hE
  refine isTrue_Compare2 (SimE.two h1 h2 hK hA S vs ht (fun W' H' s' a b x y le S' vs' ra rb hg => ?_) hE) hm
  obtain ⟨q, hq, hg⟩ := got.ex hg
  refine cmpop_sim S' ra rb hq (wpAny_truthy_bool ?_)
  cases q with
  | false => exact hQ W' H' s' _ le S' vs' (hg.f rfl)
  | true =>
    rw [if_pos rfl]
    refine h3 env P own A W' ρ H' s' _ X _ E hK hA S' vs' (hg.t rfl) (fun W₂ H₂ s₂ v z le₂ S₂ vs₂ r₂ q₂ => ?_) fun W₂ H₂ s₂ c e le₂ => hE W₂ H₂ s₂ c e (le.trans le₂)
    obtain ⟨q', hq', hg'⟩ := got.ex q₂
    exact cmpop_sim S₂ (rb.mono le₂) r₂ hq' (wpAny_truthy_bool (hQ W₂ H₂ s₂ _ (le.trans le₂) S₂ vs₂ hg'))

/-! over the signs of a text -/
noncomputable def signs (x : Str) : List V := x.cps.toList.map fun c => .str ⟨#[c]⟩
noncomputable def isK (Q : List V → Hp → Prop) (v : V) (H : Hp) : Prop := gotS v fun x => Q (signs x) H
noncomputable def itS (t : ET) : IT := fun ρ H Q X => t ρ H (isK Q) X
theorem simI_str {e : Expr} {t : ET} (h : SimE C d σ e t) : SimI C d σ e (itS t) := by
  intro env P own A W ρ H s Q X QQ E hK hA S vs ht hQ hE
  refine h env P own A W ρ H s _ X _ E hK hA S vs ht (fun W' H' s' v x le S' vs' r q => ?_) hE
  obtain ⟨y, rfl, q⟩ := gotS.ex q
  cases r
  rename_i tk
  have fr := S'.fresh (Heap.none_size s'.heap)
  have hsz : y.cps.size = (signs y).length := by simp [signs]
  have hit : ∀ j v, j < (signs y).length → SignAt y j v → ∃ x, (signs y)[j]? = some x ∧ Rep C W' x v := fun j v hj hv => by
    obtain ⟨c, u, h1, rfl⟩ := hv
    exact ⟨.str ⟨#[c]⟩, by simp [signs, h1], .str ..⟩
  cases ha : y.cps.all (· < 128)
  · refine wpAny_pyIter_wide ha (hQ W' H' _ _ _ le (S'.pushG _) (vs'.keeps (Heap.push_keeps _)) ⟨fr.1, fr.2.1, fr.2.2.1, fr.2.2.2, ?_⟩ q)
    have hw := Walks.strWide (prog := C.prog) (w := C.w) (A := A) hA.handled s'.heap.objs.size y tk
    rw [hsz] at hw
    exact ⟨_, _, _, hw, ⟨_, Heap.get?_push_size _ rfl, rfl, rfl⟩, hit, fun b hb => .inl (by simpa using hb), fun j h hst => let ⟨o, ho, hc, _⟩ := hst; ⟨o, ho, fun q => nomatch (hc.symm.trans q : Value.type _ = Value.builtin _)⟩⟩
  · refine wpAny_pyIter_ascii ha (hQ W' H' _ _ _ le (S'.pushG _) (vs'.keeps (Heap.push_keeps _)) ⟨fr.1, fr.2.1, fr.2.2.1, fr.2.2.2, ?_⟩ q)
    have hw := Walks.strAscii (prog := C.prog) (w := C.w) (A := A) hA.handled s'.heap.objs.size y tk
    rw [hsz] at hw
    exact ⟨_, _, _, hw, ⟨_, Heap.get?_push_size _ rfl, rfl, rfl⟩, hit, fun b hb => .inl (by simpa using hb), fun j h hst => let ⟨o, ho, hc, _⟩ := hst; ⟨o, ho, fun q => nomatch (hc.symm.trans q : Value.type _ = Value.builtin _)⟩⟩

/-! a sign not in a text -/
noncomputable def oneOf (x : Str) : Option Nat := if x.cps.size = 1 then x.cps[0]? else none
theorem oneOf_eq {x : Str} {c : Nat} (h : oneOf x = some c) : x = ⟨#[c]⟩ := by
  unfold oneOf at h
  split at h
  · rename_i hs
    obtain ⟨⟨l⟩⟩ := x
    cases l with
    | nil => cases hs
    | cons a r =>
      cases r with
      | nil => cases h; rfl
      | cons b r => simp at hs
  · cases h
noncomputable def niB (Q : Bool → Hp → Prop) (x y : V) (H : Hp) : Prop := gotS x fun x => gotS y fun y => got (oneOf x) fun c => Q (!decide (c ∈ y.cps.toList)) H
noncomputable def niA (b : ET) (ρ : Rho) (Q : Bool → Hp → Prop) (X : XP) (x : V) (H : Hp) : Prop := b ρ H (niB Q x) X
noncomputable def tNotInS (a b : ET) : BT := fun ρ H Q X => a ρ H (niA b ρ Q X) X
theorem simT_notInS {l r : Expr} {pos : Pos} {tl tr : ET} (h1 : SimE C d σ l tl) (h2 : SimE C d σ r tr) (hm : behindInMarks .NotIn r = false) : SimT C d σ (.Compare l [.NotIn] [r] pos) (tNotInS tl tr) := by
  intro env P own A W ρ H s Q X QQ E hK hA S vs ht hQ hE
  refine wpAny_isTrue_Compare1 (SimE.two h1 h2 hK hA S vs ht (fun W' H' s' a b x y le S' vs' ra rb hg => ?_) hE) hm
  obtain ⟨u, rfl, hg⟩ := gotS.ex hg
  obtain ⟨v, rfl, hg⟩ := gotS.ex hg
  obtain ⟨c, hc, hg⟩ := got.ex hg
  obtain rfl := oneOf_eq hc
  cases ra
  cases rb
  refine PySem.P.notIn_str (wpAny_truthy_bool ?_)
  rw [PySem.StrLaws.found_one]
  exact hQ W' H' s' _ le S' vs' hg

/-! a number in a list of numbers -/
noncomputable def isN (x : Int) : Value → Bool
  | .int y _ => y == x
  | _ => false
theorem ints_spec {W : Wd} (x : Int) (t : Tok) : ∀ {l : List Int} {xs : List Value}, RepL C W (l.map V.int) xs → (∀ y ∈ xs, ∀ (A : Around) (s : Shared), EqAt A s y (.int x t) (isN x y)) ∧ xs.any (isN x) = l.contains x
  | [], _, h => by rw [h.inv0]; exact ⟨nofun, rfl⟩
  | i :: l, _, h => by
    obtain ⟨y, ys, rfl, a, b⟩ := h.inv
    obtain ⟨h1, h2⟩ := ints_spec x t b
    cases a
    refine ⟨fun z hz => ?_, ?_⟩
    · rcases List.mem_cons.mp hz with rfl | hz
      · exact fun A s => EqAt.int_int i _ x t
      · exact h1 z hz
    · rw [List.any_cons, h2, List.contains_cons]
      show ((i == x) || _) = ((x == i) || _)
      rw [Bool.beq_comm]
noncomputable def iiB (Q : Bool → Hp → Prop) (x y : V) (H : Hp) : Prop := gotI x fun x => got (asL y H) fun xs => got (intsOf xs) fun l => Q (l.contains x) H
noncomputable def iiA (b : ET) (ρ : Rho) (Q : Bool → Hp → Prop) (X : XP) (x : V) (H : Hp) : Prop := b ρ H (iiB Q x) X
noncomputable def tInI (a b : ET) : BT := fun ρ H Q X => a ρ H (iiA b ρ Q X) X
theorem simT_inI {l r : Expr} {pos : Pos} {tl tr : ET} (h1 : SimE C d σ l tl) (h2 : SimE C d σ r tr) (hm : behindInMarks .In r = false) : SimT C d σ (.Compare l [.In] [r] pos) (tInI tl tr) := by
  intro env P own A W ρ H s Q X QQ E hK hA S vs ht hQ hE
  refine wpAny_isTrue_Compare1 (SimE.two h1 h2 hK hA S vs ht (fun W' H' s' a b x y le S' vs' ra rb hg => ?_) hE) hm
  obtain ⟨i, rfl, hg⟩ := gotI.ex hg
  obtain ⟨xs, hxs, hg⟩ := got.ex hg
  obtain ⟨l, hl, hg⟩ := got.ex hg
  cases ra
  rename_i tk
  obtain ⟨ad, ys, rfl, hh, hr⟩ := asL_spec rb S' hxs
  rw [intsOf_eq hl] at hr
  obtain ⟨g1, g2⟩ := ints_spec i tk hr
  refine in_listAt (isN i) hh (fun y hy => g1 y (by simpa using hy) _ _) (wpAny_truthy_bool ?_)
  rw [List.any_toArray, g2]
  exact hQ W' H' s' _ le S' vs' hg

/-! d.get(k, v) of a dict that is not changed -/
noncomputable def dgC (Q : V → Hp → Prop) (kvs : List (Str × V)) (k : Str) (v : V) (H : Hp) : Prop := Q ((dlook kvs k).getD v) H
noncomputable def dgB (c : ET) (ρ : Rho) (Q : V → Hp → Prop) (X : XP) (kvs : List (Str × V)) (k : V) (H : Hp) : Prop := gotS k fun k => c ρ H (dgC Q kvs k) X
noncomputable def gotD (v : V) (P : List (Str × V) → Prop) : Prop := match v with
  | .dct i => P i
  | _ => False
theorem gotD.ex {v : V} {P : List (Str × V) → Prop} (h : gotD v P) : ∃ i, v = .dct i ∧ P i := by
  cases v with
  | dct b => exact ⟨b, rfl, h⟩
  | _ => exact h.elim
noncomputable def dgA (b c : ET) (ρ : Rho) (Q : V → Hp → Prop) (X : XP) (v : V) (H : Hp) : Prop := gotD v fun kvs => b ρ H (dgB c ρ Q X kvs) X
noncomputable def dget (a b c : ET) : ET := fun ρ H Q X => a ρ H (dgA b c ρ Q X) X
theorem RepKV.lookN {W : Wd} {kvs : List (Str × V)} {kvs' : List (Str × Value)} (h : RepKV C W kvs kvs') {k : Str} (hv : dlook kvs k = none) : valueAt kvs' k = none := by
  induction kvs generalizing kvs' with
  | nil => rw [h.inv0]; rfl
  | cons p kvs ih =>
    obtain ⟨k', v⟩ := p
    obtain ⟨x, ys, rfl, a, b⟩ := h.inv
    unfold dlook at hv
    unfold valueAt
    by_cases q : k' = k
    · simp [q] at hv
    · rw [List.find?_cons_of_neg (by simpa using q)] at hv ⊢
      exact ih b hv
theorem getMethod_get {M : Program} {w : World} {A : Around} {E : Value → Shared → Prop} {s : Shared} {a : Addr} {kvs : List (Str × Value)} {pl : Sem Bool} {Q : Value × List Value → Shared → Prop} (h : s.heap.DictOf (strKind M w) a kvs) (hq : Q (.builtin "dict.get", [.ref a]) s) :
    wpAny (model M w) A (getMethod (.ref a) "get" pl) Q E s :=
  getMethod_builtin h.mapOf.typeIs PySem.F.plainAttrs_dict PySem.F.slot_dict_get PySem.F.type_dict_get h.mapOf.noDict hq
theorem sim_dget {o e f : Expr} {to te tf : ET} {apos pos : Pos} (h1 : SimE C d σ o to) (h2 : SimE C d σ e te) (h3 : SimE C d σ f tf) (hb : plainBase o = true) (hs : noStar [e, f] = true) (hp : (apos.endLine == pos.line) = true) :
    SimE C d σ (.Call (.Attribute o (Str.ofString "get") apos) [e, f] [] pos) (dget to te tf) := by
  intro env P own A W ρ H s Q X QQ E hK hA S vs ht hQ hE
  rw [eval_method hb hs (by simp) hp]
  refine wpAny_bind (h1 env P own A W ρ H s _ X _ E hK hA S vs ht (fun W₁ H₁ s₁ l x le₁ S₁ vs₁ r₁ q₁ => ?_) hE)
  obtain ⟨kvs, rfl, q₁⟩ := gotD.ex q₁
  cases r₁ with
  | @dct _ a o' kvs' g1 g2 g3 g4 =>
  have hD : s₁.heap.DictOf (strKind C.prog C.w) a kvs' := Heap.dictOf_iff.mpr ⟨_, S₁.fin _ _ g1, g2⟩
  refine wpAny_bind (wpAny_standAt (wpAny_bind (wpAny_holding (getMethod_get hD ?_))))
  rw [backTo_plain hs]
  refine wpAny_dict_get2 (knd := strKind C.prog C.w) (beq_eq_false_iff_ne.mpr g3) (h2 env P own A W₁ ρ H₁ s₁ _ X _ E hK hA S₁ vs₁ q₁ (fun W₂ H₂ s₂ v y le₂ S₂ vs₂ r₂ q₂ => ?_) fun W' H' s' c e le => hE W' H' s' c e (le₁.trans le))
  obtain ⟨k, rfl, q₂⟩ := gotS.ex q₂
  cases r₂
  refine h3 env P own A W₂ ρ H₂ s₂ _ X _ E hK hA S₂ vs₂ q₂ (fun W₃ H₃ s₃ v y le₃ S₃ vs₃ r₃ q₃ => ?_) fun W' H' s' c e le => hE W' H' s' c e ((le₁.trans le₂).trans le)
  have le := le₂.trans le₃
  have hD₃ : s₃.heap.DictOf (strKind C.prog C.w) a kvs' := Heap.dictOf_iff.mpr ⟨_, S₃.fin _ _ (le.F _ _ g1), g2⟩
  refine ⟨k, _, strKind_is .., hD₃.mapOf, ?_⟩
  refine hQ W₃ H₃ _ ((dlook kvs k).getD v) _ (le₁.trans le) (S₃.tok _) vs₃ ?_ q₃
  cases hv : dlook kvs k with
  | none => rw [g4.lookN hv]; exact r₃
  | some u =>
    obtain ⟨z, e1, e2⟩ := g4.look hv
    rw [e1]; exact e2.mono le

/-! for a, b in a list of pairs -/
noncomputable def for2B (i j : Nat) (body : ST) (k : ST) (ρ : Rho) (H : Hp) (Q : Fl → Rho → Hp → Prop) (X : XP) (a b : V) : Prop := body (upd (upd ρ i a) j b) H (lpK k Q X) X
noncomputable def for2G (i j : Nat) (body : ST) : List V → ST
  | [] => fun ρ H Q _ => Q .next ρ H
  | v :: vs => fun ρ H Q X => got2 v (for2B i j body (fun ρ H Q X => Box (for2G i j body vs ρ H Q X)) ρ H Q X)
noncomputable def for2L (i j : Nat) (body : ST) (xs : List V) : ST := fun ρ H Q X => Box (for2G i j body xs ρ H Q X)
theorem for2L_nil {i j : Nat} {body : ST} {ρ : Rho} {H : Hp} {Q : Fl → Rho → Hp → Prop} {X : XP} : for2L i j body [] ρ H Q X = Q .next ρ H := Box.eq
theorem for2L_cons {i j : Nat} {body : ST} {v : V} {vs : List V} {ρ : Rho} {H : Hp} {Q : Fl → Rho → Hp → Prop} {X : XP} : for2L i j body (v :: vs) ρ H Q X = got2 v (for2B i j body (for2L i j body vs) ρ H Q X) := Box.eq
noncomputable def gotL (v : V) (P : List V → Prop) : Prop := match v with
  | .lst i => P i
  | _ => False
theorem gotL.ex {v : V} {P : List V → Prop} (h : gotL v P) : ∃ i, v = .lst i ∧ P i := by
  cases v with
  | lst b => exact ⟨b, rfl, h⟩
  | _ => exact h.elim
noncomputable def f2K (i j : Nat) (body : ST) (ρ : Rho) (Q : Fl → Rho → Hp → Prop) (X : XP) (v : V) (H : Hp) : Prop := gotL v fun xs => for2L i j body xs ρ H Q X
noncomputable def for2S (i j : Nat) (t : ET) (body : ST) : ST := fun ρ H Q X => t ρ H (f2K i j body ρ Q X) X
theorem sim_for2 {x y : Str} {i j : Nat} {px py pt pos : Pos} {cx : Nat} {iter : Expr} {body : List Stmt} {t : ET} {tb : ST} (h : SimE C d σ iter t) (hb : SimSs C d σ body tb) (hx : σ.has x i = true) (hy : σ.has y j = true) (hs : noSet iter = true) :
    SimS C d σ (.For (.Tuple [.Name x px, .Name y py] cx pt) iter body [] pos) (for2S i j t tb) := by
  intro env P own A W ρ H s Q X QQ E hK hO hA S vs ht hQ hE
  refine wpAny_For (h env P own A W ρ H s _ X _ E hK hA S vs ht (fun W₁ H₁ s₁ v z le₁ S₀ vs₀ r₁ q₁ => ?_) fun W' H' s' => hE W' ρ H' s') fun _ => folded_noSet hs
  obtain ⟨xs, rfl, q₁⟩ := gotL.ex q₁
  cases r₁ with
  | @lst _ a o items n h1 h2 h3 h4 =>
  have fr := S₀.fresh (Heap.none_size s₁.heap)
  have hl : s₁.heap.IsList a items := ⟨o, S₀.fin _ _ h1, h2, n, h3⟩
  have hlt : a ≠ s₁.heap.objs.size := Nat.ne_of_lt (Heap.lt_size (S₀.fin _ _ h1))
  refine wpAny_pyIter_list hl ?_
  have S₁ := S₀.pushG { cls := .type "list_iterator", data := .fields #[.ref a, .int 0 0] }
  have vs₁ := vs₀.keeps (Heap.push_keeps (h := s₁.heap) { cls := .type "list_iterator", data := .fields #[.ref a, .int 0 0] })
  have hst : (s₁.heap.push { cls := .type "list_iterator", data := .fields #[.ref a, .int 0 0] }).IsListIter s₁.heap.objs.size a 0 := ⟨_, Heap.get?_push_size _ rfl, rfl, rfl⟩
  generalize hI : s₁.heap.objs.size = I at *
  have hw := Walks.list (prog := C.prog) (w := C.w) (A := A) hA.handled I a hlt items
  have hsz : items.size = xs.length := by rw [h4.length, Array.length_toList]
  rw [hsz] at hw
  refine codeAny_forLoop_any (fun k s' => ∃ j' W' ρ' H', ForI C P own σ env I W₁ xs (fun i h => h.IsListIter I a i ∧ h.IsList a items) (fun j' ρ' H' => for2L i j tb (xs.drop j') ρ' H' Q X) k s' j' W' ρ' H') ?_ (xs.length + 1) ⟨0, W₁, ρ, H₁, ⟨rfl, Nat.zero_le _, .refl _, S₁, vs₁, ⟨hst, hl.push _⟩, fr.1, fr.2.2.1, q₁⟩⟩
  rintro k s' ⟨j', W', ρ', H', J⟩
  have hkj := J.hk
  have hj := J.hj
  have le' := J.le'
  have S' := J.S'
  have vs' := J.vs'
  have hstj := J.hstj
  have hF := J.hF
  have hφ := J.hφ
  have q' := J.q'
  clear J
  subst hkj
  by_cases hlt' : j' < xs.length
  · refine hw.item j' s' _ _ hlt' hstj fun v h' tk hPv hst' hk => ?_
    obtain ⟨z, hz, hr⟩ := h4.get (i := j') (v := xs[j']) (by simp)
    have ez : items.toList[j']? = some v := by simpa using hPv
    rw [ez] at hz; cases hz
    rw [List.drop_eq_getElem_cons hlt', for2L_cons] at q'
    obtain ⟨va, vb, ev, q'⟩ := got2.ex q'
    rw [ev] at hr
    have S₂ : St C P own W' H' { s' with heap := h', toks := tk } := S'.keepsBut hk hF fr.2.1 hφ fr.2.2.2 rfl rfl
    have vs₂ : Vs C P own σ env W' ρ' h' := vs'.keepsBut hK hk fr.2.1 fr.2.2.2
    cases hr with
    | @tup _ ad oT its nT t1 t2 t3 t4 =>
    refine wpAny_letOwnedTupleGo_listiter hst'.1 ?_
    have hex : ∃ oI, h'.get? I = some oI ∧ oI.cls ≠ softCls := let ⟨o, ho, hc, _⟩ := hst'.1; ⟨o, ho, fun q => nomatch (hc.symm.trans q : Value.type _ = Value.builtin _)⟩
    obtain ⟨oI, hoI, hoc⟩ := hex
    have S₃ := S₂.moreP (a := I) (o := oI) hoI hF hφ fr.2.2.2
    have htp : IsTup h' ad its := ⟨oT, S₂.fin _ _ (le'.F _ _ t1), t2, nT, t3⟩
    obtain ⟨its⟩ := its
    obtain ⟨u, us, e, ru, t4⟩ := t4.inv
    obtain ⟨w', ws, e', rv, t4⟩ := t4.inv
    have e'' := t4.inv0
    subst e''; subst e'
    have e : its = [u, w'] := e
    subst e
    refine assign_Tuple_tuple hA.handled htp rfl rfl fun h'' he => ?_
    have hk' : ∀ b o, h'.get? b = some o → h''.get? b = some o := fun b o e => he b o (Nat.ne_of_lt (Heap.lt_size e)) e
    have S₃' : St C (addP P I oI) own W' H' { s' with heap := h'', toks := tk } := S₃.keeps hk' rfl rfl
    have vs₃' : Vs C (addP P I oI) own σ env W' ρ' h'' := (vs₂.anyP hO).keeps hk'
    refine assignInOrder_cons (wpAny_assign_Name (vs₃'.store hK (.inl hO) S₃' hx (ru.mono le') fun s₅ S₅ vs₅ => ?_))
    refine assignInOrder_cons (wpAny_assign_Name (vs₅.store hK (.inl hO) S₅ hy (rv.mono le') fun s₄ S₄ vs₄ => ?_))
    refine assignInOrder_nil ?_
    refine hb env (addP P I oI) own A W' _ H' s₄ _ X _ _ hK hO (hA.to fun L h => h.up (addP_le fr.2.1)) S₄ vs₄ q' (fun W₅ ρ₅ H₅ s₅ fl y le₅ S₅ vs₅ r₅ q₅ => ?_) (fun W₅ ρ₅ H₅ s₅ c e le₅ S₅ vs₅ f hx => (f.lessP (addP_le fr.2.1)).noted hK hO hA (S₅.lessP (addP_le fr.2.1)) (vs₅.anyP hO) fun s₆ S₆ vs₆ f₆ => f₆.cameBack hK hO S₆ vs₆ fun s₇ S₇ vs₇ f₇ => hE W₅ ρ₅ H₅ s₇ c e ((le₁.trans le').trans le₅) S₇ vs₇ f₇ hx)
    have hfin : St C P own W₅ H₅ s₅ := S₅.lessP (addP_le fr.2.1)
    have hI5 : s₅.heap.get? I = some oI := S₅.pinned (addP_at ..) hoc
    have hst5 : s₅.heap.IsListIter I a (j' + 1) ∧ s₅.heap.IsList a items := hw.frame (j' + 1) h' s₅.heap hst' fun b hb o e => by
      simp only [List.mem_cons, List.not_mem_nil, or_false] at hb
      rcases hb with rfl | rfl
      · rw [hoI] at e; cases e; exact hI5
      · have g1 := S₂.fin b _ (le'.F b _ h1)
        rw [show ({ s' with heap := h', toks := tk } : Shared).heap.get? b = h'.get? b from rfl, e] at g1; cases g1
        exact S₅.fin b o ((le'.trans le₅).F b o h1)
    have hφ5 : I ∉ W₅.φ := fun q => by
      have := S₅.hp.priv I q
      rw [addP_at] at this
      cases this
    cases r₅ with
    | next => exact ⟨xs.length + 1 - (j' + 1), by (first | lia | omega), j' + 1, W₅, ρ₅, H₅, ⟨rfl, hlt', le'.trans le₅, hfin, vs₅.anyP hO, hst5, S₅.pF I oI (addP_at ..), hφ5, q₅⟩⟩
    | cont => exact ⟨xs.length + 1 - (j' + 1), by (first | lia | omega), j' + 1, W₅, ρ₅, H₅, ⟨rfl, hlt', le'.trans le₅, hfin, vs₅.anyP hO, hst5, S₅.pF I oI (addP_at ..), hφ5, q₅⟩⟩
    | brk => exact hQ W₅ ρ₅ H₅ s₅ _ _ ((le₁.trans le').trans le₅) hfin (vs₅.anyP hO) .next q₅
    | ret r => exact hQ W₅ ρ₅ H₅ s₅ _ _ ((le₁.trans le').trans le₅) hfin (vs₅.anyP hO) (.ret r) q₅
  · have hjn : j' = xs.length := by (first | lia | omega)
    subst hjn
    refine hw.done s' _ _ hstj fun h' tk hk => wpAny_execs_nil ?_
    rw [List.drop_length, for2L_nil] at q'
    exact hQ W' ρ' H' _ _ _ (le₁.trans le') (S'.keepsBut hk hF fr.2.1 hφ fr.2.2.2 rfl rfl) (vs'.keepsBut hK hk fr.2.1 fr.2.2.2) .next q'
end
end Mine
namespace Mine
open PySem PyProof.Rows PySem.SeqAt PySem.Calls
/-! the constants of askmark.pieces -/
noncomputable def vKinds : V := .tup [.str (Str.ofString "coin"), .str (Str.ofString "fail"), .str (Str.ofString "line")]
noncomputable def abc : Str := Str.ofString "abcdefghijklmnopqrstuvwxyz"
noncomputable def vLetters : V := .str abc
noncomputable def vLengths : List (Str × V) := [(Str.ofString "num", .int 2), (Str.ofString "name", .int 2), (Str.ofString "sum", .int 3), (Str.ofString "let", .int 4), (Str.ofString "choose", .int 4), (Str.ofString "ask", .int 3), (Str.ofString "hand", .int 5)]
structure Consts (C : Cx) : Prop where
  KINDS : IsConst C (Str.ofString "KINDS") vKinds
  LETTERS : IsConst C (Str.ofString "LETTERS") vLetters
  LENGTHS : IsConst C (Str.ofString "LENGTHS") (.dct vLengths)
  MOST_LEVELS : IsConst C (Str.ofString "MOST_LEVELS") (.int 30)
end Mine
namespace Mine
open PySem PyProof.Rows PySem.SeqAt PySem.Calls PySem.W

/-! what is seen of the heap behind the modules -/
noncomputable def entryOf (e : DictEntry) : Int × Str × Int := match e.key, e.val with
  | .str k _, .int i _ => (e.hash, k, i)
  | _, _ => (0, Str.empty, 0)
noncomputable def dictSeen (h : Heap) (x : Str) : Option (List (Int × Str × Int)) := match h.nsMap mainGlobals x with
  | some (.ref a) => (match h.get? a with
    | some o => if (decide (o.cls = .type "dict") && o.dict.isNone && o.slots.isEmpty && a != sysModules) = true then (match o.data with | .dict es _ => some (es.toList.map entryOf) | _ => none) else none
    | none => none)
  | _ => none
noncomputable def lensL : List (Str × Int) := [(Str.ofString "num", 2), (Str.ofString "name", 2), (Str.ofString "sum", 3), (Str.ofString "let", 4), (Str.ofString "choose", 4), (Str.ofString "ask", 3), (Str.ofString "hand", 5)]
noncomputable def dictWant (w : World) (l : List (Str × Int)) : List (Int × Str × Int) := l.map fun p => (hashStr w p.1, p.1, p.2)
noncomputable def clsQuiet (h : Heap) (x : Str) : Bool := match h.clsAt mainGlobals x with
  | some (_, _, cd) => (h.nsMap cd.ns "__class__").isNone
  | none => false
noncomputable def excSeen (h : Heap) (x : Str) (chain : List Str) : Bool := h.ownExcOk x chain veBm "ValueError.__new__" && h.quietOk x && clsQuiet h x
noncomputable def gAt (h : Heap) (x : String) : Option Value := h.nsMap mainGlobals (Str.ofString x)
noncomputable def xcOk (h : Heap) : Bool := h.isNs mainGlobals && excSeen h (Str.ofString "AskError") [] && excSeen h (Str.ofString "TooTall") [Str.ofString "AskError"] && excSeen h (Str.ofString "BadPiece") [Str.ofString "AskError"] && excSeen h (Str.ofString "BadName") [Str.ofString "AskError"] &&
  (gAt h "TooTall" != gAt h "BadPiece") && (gAt h "TooTall" != gAt h "BadName") && (gAt h "BadPiece" != gAt h "BadName") && (gAt h "TooTall" != gAt h "AskError") && (gAt h "BadPiece" != gAt h "AskError") && (gAt h "BadName" != gAt h "AskError")

theorem exc_of {h : Heap} {x : Str} {chain : List Str} {up : List Addr} (hs : excSeen h x chain = true) (hc : (chain.map fun n => (h.nsMap mainGlobals n).getD .none) = up.map Value.ref) : ∃ C, h.nsMap mainGlobals x = some (.ref C) ∧ ExcAt h C up := by
  simp only [excSeen, Bool.and_eq_true] at hs
  obtain ⟨⟨h1, h2⟩, h3⟩ := hs
  obtain ⟨C, N, nm, q, bs, hdct, sn, sub, ab, col, dd, k0, k1, k2, k3, k5, hb, hC, hN, hq⟩ := Heap.ownExcQ_of_ok h1 h2
  refine ⟨C, hb, N, nm, q, bs, hdct, sn, sub, ab, col, dd, k0, k1, k2, k3, k5, _, by rw [← hc]; exact hC, hN, fun n hn => ?_⟩
  rcases List.mem_cons.mp hn with rfl | hn
  · unfold clsQuiet at h3
    cases hf : h.clsAt mainGlobals x with
    | none => rw [hf] at h3; cases h3
    | some z =>
      obtain ⟨C', o', cd'⟩ := z
      rw [hf] at h3
      obtain ⟨hn', ho', hd'⟩ := Heap.clsAt_spec hf
      rw [hb] at hn'
      obtain rfl : C = C' := by injection hn' with q1; injection q1
      rw [hC] at ho'
      obtain rfl := Option.some.inj ho'
      obtain rfl : _ = cd' := by injection hd'
      exact Option.isNone_iff_eq_none.mp h3
  · exact hq n hn
structure XcSays (w : World) (h : Heap) : Prop where
  cls : ∃ (aA : Addr) (ca : Nat → Addr) (m : Str → Option Value), h.Ns mainGlobals m ∧ m (Str.ofString "AskError") = some (.ref aA) ∧ ExcAt h aA [] ∧ (∀ c, m (excNm c) = some (.ref (ca c))) ∧ (∀ c, ExcAt h (ca c) [aA]) ∧ ca 0 ≠ ca 1 ∧ ca 0 ≠ ca 2 ∧ ca 1 ≠ ca 2 ∧ ∀ c, ca c ≠ aA
  len : ∃ (m : Str → Option Value) (a : Addr) (o : Obj) (es : Array DictEntry) (ep : Nat), h.Ns mainGlobals m ∧ m (Str.ofString "LENGTHS") = some (.ref a) ∧ a ≠ sysModules ∧ h.get? a = some o ∧ o.ExactDict ∧ o.data = .dict es ep ∧ es.toList.map entryOf = dictWant w lensL
theorem xc_of {w : World} {s : Shared} (e : (xcOk s.heap, dictSeen s.heap (Str.ofString "LENGTHS")) = (true, some (dictWant w lensL))) : XcSays w s.heap := by
  obtain ⟨e1, e2⟩ := Prod.mk.inj e
  simp only [xcOk, Bool.and_eq_true, gAt, bne_iff_ne] at e1
  obtain ⟨⟨⟨⟨⟨⟨⟨⟨⟨⟨g, cA⟩, cT⟩, cP⟩, cN⟩, n1⟩, n2⟩, n3⟩, n4⟩, n5⟩, n6⟩ := e1
  have hg := Heap.Ns.of_isNs g
  constructor
  · obtain ⟨aA, mA, xA⟩ := exc_of (up := []) cA rfl
    have up : ([Str.ofString "AskError"].map fun n => (s.heap.nsMap mainGlobals n).getD .none) = [aA].map Value.ref := by simp [mA]
    obtain ⟨aT, mT, xT⟩ := exc_of cT up
    obtain ⟨aP, mP, xP⟩ := exc_of cP up
    obtain ⟨aN, mN, xN⟩ := exc_of cN up
    rw [mT, mP] at n1; rw [mT, mN] at n2; rw [mP, mN] at n3; rw [mT, mA] at n4; rw [mP, mA] at n5; rw [mN, mA] at n6
    have ne : ∀ {a b : Addr}, some (Value.ref a) ≠ some (Value.ref b) → a ≠ b := fun h q => h (q ▸ rfl)
    refine ⟨aA, fun c => match c with | 0 => aT | 1 => aP | _ => aN, _, hg, mA, xA, fun c => ?_, fun c => ?_, ne n1, ne n2, ne n3, fun c => ?_⟩
    · match c with
      | 0 => exact mT
      | 1 => exact mP
      | _ + 2 => exact mN
    · match c with
      | 0 => exact xT
      | 1 => exact xP
      | _ + 2 => exact xN
    · match c with
      | 0 => exact ne n4
      | 1 => exact ne n5
      | _ + 2 => exact ne n6
  · unfold dictSeen at e2
    split at e2
    · rename_i a ha
      split at e2
      · rename_i o ho
        split at e2
        · rename_i hc
          split at e2
          · rename_i es ep hd
            simp only [Bool.and_eq_true, decide_eq_true_eq, bne_iff_ne, Option.isNone_iff_eq_none] at hc
            exact ⟨_, a, o, es, ep, hg, ha, hc.2, ho, ⟨hc.1.1.1, hc.1.1.2, Array.isEmpty_iff.mp hc.1.2⟩, hd, Option.some.inj e2⟩
          · cases e2
        · cases e2
      · cases e2
    · cases e2
theorem XcSays.keeps {w : World} {h h' : Heap} (x : XcSays w h) (k : ∀ b o, h.get? b = some o → h'.get? b = some o) : XcSays w h' where
  cls := let ⟨aA, ca, m, g, a1, a2, a3, a4, r⟩ := x.cls; ⟨aA, ca, m, g.keeps k, a1, a2.keeps k, a3, fun c => (a4 c).keeps k, r⟩
  len := let ⟨m, a, o, es, ep, g, a1, a2, a3, r⟩ := x.len; ⟨m, a, o, es, ep, g.keeps k, a1, a2, k _ _ a3, r⟩
noncomputable def xHook : Hook := ⟨Bool × Option (List (Int × Str × Int)), fun s => (xcOk s.heap, dictSeen s.heap (Str.ofString "LENGTHS")), fun w => (true, some (dictWant w lensL)), XcSays, fun _ _ e => xc_of e, fun _ _ _ x k => x.keeps k⟩

theorem ns_one {h : Heap} {a : Addr} {m m' : Str → Option Value} (x : h.Ns a m) (y : h.Ns a m') (n : Str) : m n = m' n := by
  obtain ⟨o, es, ep, h1, h2, _, h3⟩ := x
  obtain ⟨o', es', ep', g1, g2, _, g3⟩ := y
  rw [h1] at g1; cases g1
  rw [h2] at g2; cases g2
  rw [← h3 n, g3 n]
theorem exc_c {C : Cx} {w : World} (Y : XcSays w C.base) (hg : C.base.Ns mainGlobals C.mg) (hv : C.mg (Str.ofString "ValueError") = none ∧ C.mb (Str.ofString "ValueError") = some (.type "ValueError")) : ∃ aA ca, ExcC C aA ca := by
  obtain ⟨aA, ca, m, g, a1, a2, a3, a4, a5, a6, a7, a8⟩ := Y.cls
  exact ⟨aA, ca, (ns_one hg g _).trans a1, a2, fun c => (ns_one hg g _).trans (a3 c), a4, a5, a6, a7, a8, hv⟩
theorem entries_of {C : Cx} {W : Wd} : ∀ {es : List DictEntry} {ks : List (Str × Int)}, es.map entryOf = dictWant C.w ks → (∀ p ∈ ks, p.1 ≠ Str.empty) →
    (∀ e ∈ es, ∃ k, (strKind C.prog C.w).is k e.key = true ∧ e.hash = (strKind C.prog C.w).hash k) ∧ ∃ kvs' : List (Str × Value), Pairs (strKind C.prog C.w) es kvs' ∧ kvs'.map (·.1) = ks.map (·.1) ∧ RepKV C W (ks.map fun p => (p.1, V.int p.2)) kvs'
  | [], [], _, _ => ⟨fun _ h => absurd h List.not_mem_nil, [], .nil, rfl, .nil⟩
  | [], p :: ks, h, _ => by cases h
  | e :: es, [], h, _ => by cases h
  | e :: es, p :: ks, h, hn => by
    obtain ⟨h1, h2⟩ := List.cons.inj h
    obtain ⟨i1, kvs', i2, i3, i4⟩ := entries_of (W := W) h2 fun q hq => hn q (List.mem_cons_of_mem _ hq)
    have hp := hn p List.mem_cons_self
    obtain ⟨eh, ek, ev⟩ := e
    obtain ⟨k, i⟩ := p
    unfold entryOf at h1
    split at h1
    · rename_i k' t i' t' hk hv
      cases hk; cases hv
      obtain ⟨q1, q2⟩ := Prod.mk.inj h1
      obtain ⟨q2, q3⟩ := Prod.mk.inj q2
      have q1 : eh = hashStr C.w k := q1
      have q2 : k' = k := q2
      have q3 : i' = i := q3
      subst q1; subst q2; subst q3
      refine ⟨fun e he => ?_, (k', .int i' t') :: kvs', .cons (strKind_is ..) rfl i2, congrArg (k' :: ·) i3, .cons (.int ..) i4⟩
      rcases List.mem_cons.mp he with rfl | he
      · exact ⟨k', strKind_is .., rfl⟩
      · exact i1 e he
    · obtain ⟨_, q2⟩ := Prod.mk.inj h1
      exact absurd (Prod.mk.inj q2).1.symm hp
theorem len_c {C : Cx} (Y : XcSays C.w C.base) (hg : C.base.Ns mainGlobals C.mg) : IsConst C (Str.ofString "LENGTHS") (.dct vLengths) := by
  obtain ⟨m, a, o, es, ep, g, a1, a2, a3, a4, a5, a6⟩ := Y.len
  refine ⟨.ref a, (ns_one hg g _).trans a1, fun W hW => ?_⟩
  obtain ⟨i1, kvs', i2, i3, i4⟩ := entries_of (C := C) (W := W) a6 (by decide)
  exact .dct (hW _ _ a3) ⟨es, ep, a4, a5, fun e he => i1 e (by simpa using he), i2, by rw [i3]; decide, ⟩ a2 i4
theorem strs_rep {C : Cx} {W : Wd} : ∀ {vs : List Value} {ss : List Str}, StrsAre vs ss → RepL C W (ss.map V.str) vs
  | _, _, .nil => .nil
  | _, _, .cons n t r => .cons (.str n t) (strs_rep r)
theorem kinds_c {C : Cx} {q : Program} (B : Tables q C.w C.mg C.base) (h : tupStrsOf q (Str.ofString "KINDS") = some [Str.ofString "coin", Str.ofString "fail", Str.ofString "line"]) : IsConst C (Str.ofString "KINDS") vKinds := by
  obtain ⟨a, vs, h1, h2, h3⟩ := B.tupS _ _ h
  obtain ⟨o, ho, hc, n, hd⟩ := h2
  exact ⟨.ref a, h1, fun W hW => .tup (hW _ _ ho) hc hd (by simpa using strs_rep h3)⟩
theorem letters_c {C : Cx} {q : Program} {loose : List Str} {mean : ExcName → Option Value} (T : Top q loose mean C.mg C.mb C.base) (h : valOf q (Str.ofString "LETTERS") = some (.str abc)) : IsConst C (Str.ofString "LETTERS") vLetters := by
  obtain ⟨v, h1, h2⟩ := T.const _ _ h
  refine ⟨v, h1, fun W _ => ?_⟩
  cases h2 C.base with
  | str x t => exact .str ..
theorem most_c {C : Cx} {q : Program} {loose : List Str} {mean : ExcName → Option Value} (T : Top q loose mean C.mg C.mb C.base) (h : valOf q (Str.ofString "MOST_LEVELS") = some (.int 30)) : IsConst C (Str.ofString "MOST_LEVELS") (.int 30) := by
  obtain ⟨v, h1, h2⟩ := T.const _ _ h
  refine ⟨v, h1, fun W _ => ?_⟩
  cases h2 C.base with
  | int x t => exact .int ..
/-- where the defs lie -/
noncomputable def adrOf (mg : Str → Option Value) (x : Str) : Option Addr := match mg x with
  | some (.ref a) => some a
  | _ => none
theorem adr_of {mg : Str → Option Value} {x : Str} {a : Addr} (h : mg x = some (.ref a)) : adrOf mg x = some a := by unfold adrOf; rw [h]
theorem adr_at {q : Program} {loose : List Str} {mean : ExcName → Option Value} {mg mb : Str → Option Value} {hp : Heap} (_T : Top q loose mean mg mb hp) : ∀ r ∈ recsOf q, ∀ a, mg r.name = some (.ref a) → adrOf mg r.name = some a := fun _ _ _ h => adr_of h
end Mine
set_option maxRecDepth 100000
set_option linter.unusedVariables false
namespace Mine
open PySem PyProof.Rows PySem.SeqAt PySem.Calls
noncomputable def m__law_cell_at_q0_1 (S : Orc) : List ST := [retS (cI 0)]

noncomputable def m__law_cell_at_q0_0 (S : Orc) : List ST := (ifS (tCmp .Lt (nm 1) (bLen (nm 0))) (blk [retS (idx (nm 0) (nm 1))]) (blk [])) :: m__law_cell_at_q0_1 S

noncomputable def m__law_cell_at (S : Orc) : ST := blk (m__law_cell_at_q0_0 S)

noncomputable def m__law_mixed_q0_1 (S : Orc) : List ST := [retS (bin .Mod (bin .Mult (nm 2) (nm 2)) (cI 2147483647))]

noncomputable def m__law_mixed_q0_0 (S : Orc) : List ST := (asg 2 (bin .Mod (bin .Mult (bin .Add (bin .Add (nm 0) (bin .Mult (cI 7) (nm 1))) (cI 3)) (cI 48271)) (cI 2147483647))) :: m__law_mixed_q0_1 S

noncomputable def m__law_mixed (S : Orc) : ST := blk (m__law_mixed_q0_0 S)

noncomputable def m__law_whole_q0_0 (S : Orc) : List ST := [retS (vAll [bIsi (nm 0) .int, vNot (bIsi (nm 0) .bool)])]

noncomputable def m__law_whole (S : Orc) : ST := blk (m__law_whole_q0_0 S)

end Mine
set_option linter.unusedVariables false
namespace Mine
open PySem PyProof.Rows PySem.SeqAt PySem.Calls

noncomputable def m_is_number_q0_0 (S : Orc) : List ST := [retS (vAll [bIsi (nm 0) .int, vNot (bIsi (nm 0) .bool), cmp2 .LtE .LtE (cI 0) (nm 0) (cI 999)])]

noncomputable def m_is_number (S : Orc) : ST := blk (m_is_number_q0_0 S)

noncomputable def m_is_name_q0_0 (S : Orc) : List ST := [ifS (tNotInS (nm 1) (gk vLetters)) (blk [retS (cB false)]) (blk [])]

noncomputable def m_is_name_b1 (S : Orc) : ST := blk (m_is_name_q0_0 S)

noncomputable def m_is_name_q1_2 (S : Orc) : List ST := [retS (cB true)]

noncomputable def m_is_name_q1_1 (S : Orc) : List ST := (forS 1 (itS (nm 0)) (m_is_name_b1 S)) :: m_is_name_q1_2 S

noncomputable def m_is_name_q1_0 (S : Orc) : List ST := (ifS (tAny [tNot (tVal (bIsi (nm 0) .str)), tNot (tCmp2 .LtE .LtE (cI 1) (bLen (nm 0)) (cI 8))]) (blk [retS (cB false)]) (blk [])) :: m_is_name_q1_1 S

noncomputable def m_is_name (S : Orc) : ST := blk (m_is_name_q1_0 S)

noncomputable def m_is_kind_q0_0 (S : Orc) : List ST := [retS (vAll [bIsi (nm 0) .str, cmp .In (nm 0) (gk vKinds)])]

noncomputable def m_is_kind (S : Orc) : ST := blk (m_is_kind_q0_0 S)

noncomputable def m_is_formed_q0_0 (S : Orc) : List ST := [retS (vAll [callP S "is_kind" [idx (nm 0) (cI 1)], callP S "is_name" [idx (nm 0) (cI 2)]])]

noncomputable def m_is_formed_q1_6 (S : Orc) : List ST := [retS (cB true)]

noncomputable def m_is_formed_q1_5 (S : Orc) : List ST := (ifS (tCmp .Eq (idx (nm 0) (cI 0)) (cS (Str.ofString "hand"))) (blk (m_is_formed_q0_0 S)) (blk [])) :: m_is_formed_q1_6 S

noncomputable def m_is_formed_q1_4 (S : Orc) : List ST := (ifS (tCmp .Eq (idx (nm 0) (cI 0)) (cS (Str.ofString "ask"))) (blk [retS (callP S "is_kind" [idx (nm 0) (cI 1)])]) (blk [])) :: m_is_formed_q1_5 S

noncomputable def m_is_formed_q1_3 (S : Orc) : List ST := (ifS (tCmp .In (idx (nm 0) (cI 0)) (mkT [cS (Str.ofString "name"), cS (Str.ofString "let")])) (blk [retS (callP S "is_name" [idx (nm 0) (cI 1)])]) (blk [])) :: m_is_formed_q1_4 S

noncomputable def m_is_formed_q1_2 (S : Orc) : List ST := (ifS (tCmp .Eq (idx (nm 0) (cI 0)) (cS (Str.ofString "num"))) (blk [retS (callP S "is_number" [idx (nm 0) (cI 1)])]) (blk [])) :: m_is_formed_q1_3 S

noncomputable def m_is_formed_q1_1 (S : Orc) : List ST := (ifS (tCmp .NotEq (dget (gk (.dct vLengths)) (idx (nm 0) (cI 0)) (cI 0)) (bLen (nm 0))) (blk [retS (cB false)]) (blk [])) :: m_is_formed_q1_2 S

noncomputable def m_is_formed_q1_0 (S : Orc) : List ST := (ifS (tAny [tNot (tVal (bIsi (nm 0) .tuple)), tCmp .Eq (bLen (nm 0)) (cI 0), tNot (tVal (bIsi (idx (nm 0) (cI 0)) .str))]) (blk [retS (cB false)]) (blk [])) :: m_is_formed_q1_1 S

noncomputable def m_is_formed (S : Orc) : ST := blk (m_is_formed_q1_0 S)

noncomputable def m_inner_of_q0_0 (S : Orc) : List ST := [retS (lcomp 2 (itV (slc (nm 0) (some (cI 1)) none)) none (mkT [nm 2, nm 1]))]

noncomputable def m_inner_of_q1_0 (S : Orc) : List ST := [retS (mkL [mkT [idx (nm 0) (cI 2), nm 1], mkT [idx (nm 0) (cI 3), bin .Add (nm 1) (mkT [idx (nm 0) (cI 1)])]])]

noncomputable def m_inner_of_q2_0 (S : Orc) : List ST := [retS (mkL [mkT [idx (nm 0) (cI 3), bin .Add (nm 1) (mkT [idx (nm 0) (cI 2)])], mkT [idx (nm 0) (cI 4), nm 1]])]

noncomputable def m_inner_of_q3_4 (S : Orc) : List ST := [retS (mkL [])]

noncomputable def m_inner_of_q3_3 (S : Orc) : List ST := (ifS (tCmp .Eq (idx (nm 0) (cI 0)) (cS (Str.ofString "hand"))) (blk (m_inner_of_q2_0 S)) (blk [])) :: m_inner_of_q3_4 S

noncomputable def m_inner_of_q3_2 (S : Orc) : List ST := (ifS (tCmp .Eq (idx (nm 0) (cI 0)) (cS (Str.ofString "ask"))) (blk [retS (mkL [mkT [idx (nm 0) (cI 2), nm 1]])]) (blk [])) :: m_inner_of_q3_3 S

noncomputable def m_inner_of_q3_1 (S : Orc) : List ST := (ifS (tCmp .Eq (idx (nm 0) (cI 0)) (cS (Str.ofString "let"))) (blk (m_inner_of_q1_0 S)) (blk [])) :: m_inner_of_q3_2 S

noncomputable def m_inner_of_q3_0 (S : Orc) : List ST := (ifS (tCmp .In (idx (nm 0) (cI 0)) (mkT [cS (Str.ofString "sum"), cS (Str.ofString "choose")])) (blk (m_inner_of_q0_0 S)) (blk [])) :: m_inner_of_q3_1 S

noncomputable def m_inner_of (S : Orc) : ST := blk (m_inner_of_q3_0 S)

noncomputable def m_counted_q0_0 (S : Orc) : List ST := [asg 3 (bin .Add (nm 3) (callP S "counted" [nm 4, bin .Add (nm 1) (cI 1), nm 5]))]

noncomputable def m_counted_b1 (S : Orc) : ST := blk (m_counted_q0_0 S)

noncomputable def m_counted_q1_5 (S : Orc) : List ST := [retS (nm 3)]

noncomputable def m_counted_q1_4 (S : Orc) : List ST := (for2S 4 5 (callP S "inner_of" [nm 0, nm 2]) (m_counted_b1 S)) :: m_counted_q1_5 S

noncomputable def m_counted_q1_3 (S : Orc) : List ST := (asg 3 (cI 1)) :: m_counted_q1_4 S

noncomputable def m_counted_q1_2 (S : Orc) : List ST := (ifS (tAll [tCmp .Eq (idx (nm 0) (cI 0)) (cS (Str.ofString "name")), tCmp .NotIn (idx (nm 0) (cI 1)) (nm 2)]) (blk [raiseS 2]) (blk [])) :: m_counted_q1_3 S

noncomputable def m_counted_q1_1 (S : Orc) : List ST := (ifS (tNot (tVal (callP S "is_formed" [nm 0]))) (blk [raiseS 1]) (blk [])) :: m_counted_q1_2 S

noncomputable def m_counted_q1_0 (S : Orc) : List ST := (ifS (tCmp .Gt (nm 1) (gk (.int 30))) (blk [raiseS 0]) (blk [])) :: m_counted_q1_1 S

noncomputable def m_counted (S : Orc) : ST := blk (m_counted_q1_0 S)

noncomputable def m_checked_q0_0 (S : Orc) : List ST := [retS (callP S "counted" [nm 0, cI 1, mkT []])]

noncomputable def m_checked (S : Orc) : ST := blk (m_checked_q0_0 S)

noncomputable def m__law_refusal_q0_1 (S : Orc) : List ST := [retS (cS (Str.ofString ""))]

noncomputable def m__law_refusal_q0_0 (S : Orc) : List ST := (tryS (blk [exprA (callP S "checked" [nm 0])])) :: m__law_refusal_q0_1 S

noncomputable def m__law_refusal (S : Orc) : ST := blk (m__law_refusal_q0_0 S)

noncomputable def m__law_level_q0_0 (S : Orc) : List ST := [retS (idx (mkL [mkT [cS (Str.ofString "sum"), nm 3, nm 4], mkT [cS (Str.ofString "sum"), nm 4, nm 3]]) (nm 0))]

noncomputable def m__law_level_q1_0 (S : Orc) : List ST := [retS (idx (mkL [mkT [cS (Str.ofString "let"), nm 1, nm 3, nm 4], mkT [cS (Str.ofString "let"), nm 1, nm 4, nm 3]]) (bin .Sub (nm 0) (cI 2)))]

noncomputable def m__law_level_q2_0 (S : Orc) : List ST := [retS (idx (mkL [mkT [cS (Str.ofString "choose"), nm 4, nm 3, nm 4], mkT [cS (Str.ofString "choose"), nm 4, nm 4, nm 3]]) (bin .Sub (nm 0) (cI 5)))]

noncomputable def m__law_level_q3_5 (S : Orc) : List ST := [retS (idx (mkL [mkT [cS (Str.ofString "hand"), nm 2, nm 1, nm 3, nm 4], mkT [cS (Str.ofString "hand"), nm 2, nm 1, nm 4, nm 3]]) (bin .Sub (nm 0) (cI 8)))]

noncomputable def m__law_level_q3_4 (S : Orc) : List ST := (ifS (tCmp .Eq (nm 0) (cI 7)) (blk [retS (mkT [cS (Str.ofString "ask"), nm 2, nm 3])]) (blk [])) :: m__law_level_q3_5 S

noncomputable def m__law_level_q3_3 (S : Orc) : List ST := (ifS (tCmp .Lt (nm 0) (cI 7)) (blk (m__law_level_q2_0 S)) (blk [])) :: m__law_level_q3_4 S

noncomputable def m__law_level_q3_2 (S : Orc) : List ST := (ifS (tCmp .Eq (nm 0) (cI 4)) (blk [retS (mkT [cS (Str.ofString "choose"), nm 3, nm 4, nm 4])]) (blk [])) :: m__law_level_q3_3 S

noncomputable def m__law_level_q3_1 (S : Orc) : List ST := (ifS (tCmp .Lt (nm 0) (cI 4)) (blk (m__law_level_q1_0 S)) (blk [])) :: m__law_level_q3_2 S

noncomputable def m__law_level_q3_0 (S : Orc) : List ST := (ifS (tCmp .Lt (nm 0) (cI 2)) (blk (m__law_level_q0_0 S)) (blk [])) :: m__law_level_q3_1 S

noncomputable def m__law_level (S : Orc) : ST := blk (m__law_level_q3_0 S)


end Mine
set_option maxHeartbeats 8000000
set_option maxRecDepth 100000
set_option maxHeartbeats 4000000
set_option linter.unusedVariables false
namespace Mine
open PySem PyProof.Rows PySem.SeqAt PySem.Calls

noncomputable def m__law_bad_q0_16 (S : Orc) : List ST := [retS (idx (nm 1) (bin .Mod (nm 0) (bLen (nm 1))))]

noncomputable def m__law_bad_q0_15 (S : Orc) : List ST := (asg 1 (bin .Add (nm 1) (mkL [mkT [cS (Str.ofString "let"), mkL [cS (Str.ofString "a")], mkT [cS (Str.ofString "num"), cI 1], mkT [cS (Str.ofString "num"), cI 1]]]))) :: m__law_bad_q0_16 S

noncomputable def m__law_bad_q0_14 (S : Orc) : List ST := (asg 1 (bin .Add (nm 1) (mkL [mkT [cS (Str.ofString "ask"), mkL [cS (Str.ofString "line")], mkT [cS (Str.ofString "num"), cI 1]], mkT [cS (Str.ofString "hand"), mkD0, cS (Str.ofString "a"), mkT [cS (Str.ofString "num"), cI 1], mkT [cS (Str.ofString "num"), cI 1]]]))) :: m__law_bad_q0_15 S

noncomputable def m__law_bad_q0_13 (S : Orc) : List ST := (asg 1 (bin .Add (nm 1) (mkL [mkT [cS (Str.ofString "hand"), cS (Str.ofString "coin"), cS (Str.ofString "a1"), mkT [cS (Str.ofString "num"), cI 1], mkT [cS (Str.ofString "num"), cI 1]], mkT [mkL [cS (Str.ofString "num")], cI 1], mkT [mkD0, cI 1], mkT [cS (Str.ofString "name"), mkL [cS (Str.ofString "a")]]]))) :: m__law_bad_q0_14 S

noncomputable def m__law_bad_q0_12 (S : Orc) : List ST := (asg 1 (bin .Add (nm 1) (mkL [mkT [cS (Str.ofString "hand"), cS (Str.ofString "coin"), cS (Str.ofString "A"), mkT [cS (Str.ofString "num"), cI 1], mkT [cS (Str.ofString "num"), cI 1]], mkT [cS (Str.ofString "hand"), cS (Str.ofString "line"), cN, mkT [cS (Str.ofString "num"), cI 1], mkT [cS (Str.ofString "num"), cI 1]]]))) :: m__law_bad_q0_13 S

noncomputable def m__law_bad_q0_11 (S : Orc) : List ST := (asg 1 (bin .Add (nm 1) (mkL [mkT [cS (Str.ofString "sum")], mkT [cS (Str.ofString ""), cI 1], mkT [cS (Str.ofString "ask"), mkT [cS (Str.ofString "line")], mkT [cS (Str.ofString "num"), cI 1]], mkT [cS (Str.ofString "name"), cN], mkT [mkT [cS (Str.ofString "num"), cI 1]]]))) :: m__law_bad_q0_12 S

noncomputable def m__law_bad_q0_10 (S : Orc) : List ST := (asg 1 (bin .Add (nm 1) (mkL [mkT [cS (Str.ofString "choose"), mkT [cS (Str.ofString "num"), cI 0], mkT [cS (Str.ofString "num"), cI 1], cN], mkT [cS (Str.ofString "hand"), cS (Str.ofString "coin"), cS (Str.ofString "a"), mkT [cS (Str.ofString "num"), cI 1], mkL [mkT [cS (Str.ofString "num"), cI 1]]]]))) :: m__law_bad_q0_11 S

noncomputable def m__law_bad_q0_9 (S : Orc) : List ST := (asg 1 (bin .Add (nm 1) (mkL [mkT [cS (Str.ofString "sum"), mkT [cS (Str.ofString "num"), cI 1], cI 5], mkT [cS (Str.ofString "sum"), cI 5, mkT [cS (Str.ofString "num"), cI 1]], mkT [cS (Str.ofString "ask"), cS (Str.ofString "coin"), cS (Str.ofString "num")], mkT [cS (Str.ofString "let"), cS (Str.ofString "a"), cI 1, mkT [cS (Str.ofString "num"), cI 1]]]))) :: m__law_bad_q0_10 S

noncomputable def m__law_bad_q0_8 (S : Orc) : List ST := (asg 1 (bin .Add (nm 1) (mkL [mkT [cS (Str.ofString "hand"), cS (Str.ofString "fail"), cI 3, mkT [cS (Str.ofString "num"), cI 1], mkT [cS (Str.ofString "num"), cI 1]], mkT [cS (Str.ofString "hand"), cI 0, cS (Str.ofString "a"), mkT [cS (Str.ofString "num"), cI 1], mkT [cS (Str.ofString "num"), cI 1]], mkT [cN, cI 1]]))) :: m__law_bad_q0_9 S

noncomputable def m__law_bad_q0_7 (S : Orc) : List ST := (asg 1 (bin .Add (nm 1) (mkL [mkT [cS (Str.ofString "hand"), cS (Str.ofString "line "), cS (Str.ofString "a"), mkT [cS (Str.ofString "num"), cI 1], mkT [cS (Str.ofString "num"), cI 1]], mkT [cS (Str.ofString "hand"), cS (Str.ofString "fail"), cS (Str.ofString ""), mkT [cS (Str.ofString "num"), cI 1], mkT [cS (Str.ofString "num"), cI 1]]]))) :: m__law_bad_q0_8 S

noncomputable def m__law_bad_q0_6 (S : Orc) : List ST := (asg 1 (bin .Add (nm 1) (mkL [mkT [cS (Str.ofString "ask"), cS (Str.ofString ""), mkT [cS (Str.ofString "num"), cI 1]], mkT [cS (Str.ofString "ask"), cS (Str.ofString "coin"), mkT [cS (Str.ofString "num"), cI 1], mkT [cS (Str.ofString "num"), cI 1]], mkT [cS (Str.ofString "hand"), cS (Str.ofString "coin"), cS (Str.ofString "a"), mkT [cS (Str.ofString "num"), cI 1]]]))) :: m__law_bad_q0_7 S

noncomputable def m__law_bad_q0_5 (S : Orc) : List ST := (asg 1 (bin .Add (nm 1) (mkL [mkT [cS (Str.ofString "ask"), cS (Str.ofString "lines"), mkT [cS (Str.ofString "num"), cI 1]], mkT [cS (Str.ofString "ask"), cN, mkT [cS (Str.ofString "num"), cI 1]], mkT [cS (Str.ofString "ask"), cS (Str.ofString "Coin"), mkT [cS (Str.ofString "num"), cI 1]], mkT [cI 1, cI 2]]))) :: m__law_bad_q0_6 S

noncomputable def m__law_bad_q0_4 (S : Orc) : List ST := (asg 1 (bin .Add (nm 1) (mkL [mkT [cS (Str.ofString "let"), cS (Str.ofString "a b"), mkT [cS (Str.ofString "num"), cI 1], mkT [cS (Str.ofString "num"), cI 1]], mkT [cS (Str.ofString "choose"), mkT [cS (Str.ofString "num"), cI 1], mkT [cS (Str.ofString "num"), cI 2]], mkT [cS (Str.ofString "ask"), cS (Str.ofString "line")]]))) :: m__law_bad_q0_5 S

noncomputable def m__law_bad_q0_3 (S : Orc) : List ST := (asg 1 (bin .Add (nm 1) (mkL [mkT [cS (Str.ofString "let"), cS (Str.ofString "a"), mkT [cS (Str.ofString "num"), cI 1]], mkT [cS (Str.ofString "let"), cS (Str.ofString ""), mkT [cS (Str.ofString "num"), cI 1], mkT [cS (Str.ofString "num"), cI 1]], mkT [cS (Str.ofString "let"), cI 1, mkT [cS (Str.ofString "num"), cI 1], mkT [cS (Str.ofString "num"), cI 1]]]))) :: m__law_bad_q0_4 S

noncomputable def m__law_bad_q0_2 (S : Orc) : List ST := (asg 1 (bin .Add (nm 1) (mkL [mkT [cS (Str.ofString "name"), cI 5], mkT [cS (Str.ofString "name"), cS (Str.ofString "0")], mkT [cS (Str.ofString "name")], mkT [cS (Str.ofString "sum"), mkT [cS (Str.ofString "num"), cI 1]], mkT [cS (Str.ofString "Sum"), mkT [cS (Str.ofString "num"), cI 1], mkT [cS (Str.ofString "num"), cI 1]]]))) :: m__law_bad_q0_3 S

noncomputable def m__law_bad_q0_1 (S : Orc) : List ST := (asg 1 (bin .Add (nm 1) (mkL [mkT [cS (Str.ofString "num"), cI 1, cI 2], mkL [cS (Str.ofString "num"), cI 1], mkT [cS (Str.ofString "name"), cS (Str.ofString "")], mkT [cS (Str.ofString "name"), cS (Str.ofString "abcdefghi")], mkT [cS (Str.ofString "name"), cS (Str.ofString "a1")], mkT [cS (Str.ofString "name"), cS (Str.ofString "Ab")]]))) :: m__law_bad_q0_2 S

noncomputable def m__law_bad_q0_0 (S : Orc) : List ST := (asg 1 (mkL [cN, cI 7, cS (Str.ofString "num"), mkL [], mkT [], mkT [cS (Str.ofString "num")], mkT [cS (Str.ofString "num"), neg (cI 1)], mkT [cS (Str.ofString "num"), cI 1000], mkT [cS (Str.ofString "num"), cB true], mkT [cS (Str.ofString "num"), cS (Str.ofString "1")], mkT [cS (Str.ofString "num"), cN]])) :: m__law_bad_q0_1 S

noncomputable def m__law_bad (S : Orc) : ST := blk (m__law_bad_q0_0 S)

noncomputable def m__law_holds_q0_1 (S : Orc) : List ST := [asg 4 (cS (Str.ofString ""))]

noncomputable def m__law_holds_q0_0 (S : Orc) : List ST := (asg 3 (mkT [cS (Str.ofString "num"), bin .Mod (bin .FloorDiv (nm 0) (cI 8)) (cI 1000)])) :: m__law_holds_q0_1 S

noncomputable def m__law_holds_q1_0 (S : Orc) : List ST := [asg 6 (idx (mkL [cI 28, cI 30, cI 30, cI 31]) (bin .Mod (bin .FloorDiv (nm 0) (cI 24)) (cI 4)))]

noncomputable def m__law_holds_q2_1 (S : Orc) : List ST := [ifS (tAll [tCmp .Lt (bin .Sub (nm 6) (nm 7)) (cI 30), tAny [tInI (nm 9) (mkL [cI 1, cI 3, cI 5, cI 6, cI 9]), tAll [tCmp .Eq (nm 4) (cS (Str.ofString "")), tCmp .NotEq (nm 9) (cI 7)]]]) (blk [asg 4 (cS (Str.ofString "name"))]) (blk [])]

noncomputable def m__law_holds_q2_0 (S : Orc) : List ST := (asg 10 (mkT [cS (Str.ofString "name"), cS (Str.ofString "abd")])) :: m__law_holds_q2_1 S

noncomputable def m__law_holds_q3_6 (S : Orc) : List ST := [asg 5 (bin .Add (nm 5) (idx (mkL [cI 2, cI 2, cI 2, cI 2, cI 3, cI 3, cI 3, cI 1, cI 2, cI 2]) (nm 9)))]

noncomputable def m__law_holds_q3_5 (S : Orc) : List ST := (asg 3 (callP S "_law_level" [nm 9, nm 11, idx (mkL [cS (Str.ofString "coin"), cS (Str.ofString "fail"), cS (Str.ofString "line")]) (bin .Mod (nm 7) (cI 3)), nm 3, nm 10])) :: m__law_holds_q3_6 S

noncomputable def m__law_holds_q3_4 (S : Orc) : List ST := (asg 11 (idx (mkL [cS (Str.ofString "a"), cS (Str.ofString "ab"), cS (Str.ofString "abc"), cS (Str.ofString "abdd"), cS (Str.ofString "bd"), cS (Str.ofString "abe"), cS (Str.ofString "d")]) (bin .Mod (bin .FloorDiv (nm 8) (cI 80)) (cI 7)))) :: m__law_holds_q3_5 S

noncomputable def m__law_holds_q3_3 (S : Orc) : List ST := (ifS (tCmp .Eq (bin .Mod (bin .FloorDiv (nm 8) (cI 10)) (bin .Add (cI 8) (bin .Mult (cI 80) (bIntB (cmp .Gt (nm 6) (cI 12)))))) (cI 3)) (blk (m__law_holds_q2_0 S)) (blk [])) :: m__law_holds_q3_4 S

noncomputable def m__law_holds_q3_2 (S : Orc) : List ST := (asg 10 (mkT [cS (Str.ofString "num"), nm 7])) :: m__law_holds_q3_3 S

noncomputable def m__law_holds_q3_1 (S : Orc) : List ST := (asg 9 (bin .Mod (nm 8) (cI 10))) :: m__law_holds_q3_2 S

noncomputable def m__law_holds_q3_0 (S : Orc) : List ST := (asg 8 (callP S "_law_mixed" [nm 2, nm 7])) :: m__law_holds_q3_1 S

noncomputable def m__law_holds_b1 (S : Orc) : ST := blk (m__law_holds_q3_0 S)

noncomputable def m__law_holds_q4_10 (S : Orc) : List ST := [retS (vAll [callP S "_law_whole" [nm 12], cmp .Eq (nm 12) (nm 5)])]

noncomputable def m__law_holds_q4_9 (S : Orc) : List ST := (asg 12 (callP S "checked" [nm 3])) :: m__law_holds_q4_10 S

noncomputable def m__law_holds_q4_8 (S : Orc) : List ST := (ifS (tCmp .NotEq (nm 4) (cS (Str.ofString ""))) (blk [retS (cmp .Eq (callP S "_law_refusal" [nm 3]) (nm 4))]) (blk [])) :: m__law_holds_q4_9 S

noncomputable def m__law_holds_q4_7 (S : Orc) : List ST := (forS 7 (itR (nm 6)) (m__law_holds_b1 S)) :: m__law_holds_q4_8 S

noncomputable def m__law_holds_q4_6 (S : Orc) : List ST := (ifS (tCmp .Gt (nm 6) (cI 29)) (blk [asg 4 (cS (Str.ofString "tall"))]) (blk [])) :: m__law_holds_q4_7 S

noncomputable def m__law_holds_q4_5 (S : Orc) : List ST := (ifS (tCmp .Eq (bin .Mod (bin .FloorDiv (nm 0) (cI 8)) (cI 3)) (cI 2)) (blk (m__law_holds_q1_0 S)) (blk [])) :: m__law_holds_q4_6 S

noncomputable def m__law_holds_q4_4 (S : Orc) : List ST := (asg 6 (bin .Mod (bin .FloorDiv (nm 0) (cI 24)) (cI 13))) :: m__law_holds_q4_5 S

noncomputable def m__law_holds_q4_3 (S : Orc) : List ST := (asg 5 (cI 1)) :: m__law_holds_q4_4 S

noncomputable def m__law_holds_q4_2 (S : Orc) : List ST := (ifS (tCmp .Eq (bin .Mod (nm 0) (cI 8)) (cI 5)) (blk (m__law_holds_q0_0 S)) (blk [])) :: m__law_holds_q4_3 S

noncomputable def m__law_holds_q4_1 (S : Orc) : List ST := (asg 4 (cS (Str.ofString "piece"))) :: m__law_holds_q4_2 S

noncomputable def m__law_holds_q4_0 (S : Orc) : List ST := (asg 3 (callP S "_law_bad" [nm 1])) :: m__law_holds_q4_1 S

noncomputable def m__law_holds (S : Orc) : ST := blk (m__law_holds_q4_0 S)

noncomputable def m_law_q0_2 (S : Orc) : List ST := [ifS (tNot (tVal (callP S "_law_holds" [nm 2, nm 3, bin .Add (callP S "_law_cell_at" [nm 0, cI 2]) (bin .Mult (cI 31) (nm 1))]))) (blk [retS (cB false)]) (blk [])]

noncomputable def m_law_q0_1 (S : Orc) : List ST := (asg 3 (callP S "_law_mixed" [callP S "_law_cell_at" [nm 0, cI 1], bin .Mult (cI 5) (nm 1)])) :: m_law_q0_2 S

noncomputable def m_law_q0_0 (S : Orc) : List ST := (asg 2 (bin .FloorDiv (callP S "_law_mixed" [callP S "_law_cell_at" [nm 0, cI 0], bin .Mult (cI 3) (nm 1)]) (cI 5))) :: m_law_q0_1 S

noncomputable def m_law_b1 (S : Orc) : ST := blk (m_law_q0_0 S)

noncomputable def m_law_q1_1 (S : Orc) : List ST := [retS (cB true)]

noncomputable def m_law_q1_0 (S : Orc) : List ST := (forS 1 (itR (cI 5)) (m_law_b1 S)) :: m_law_q1_1 S

noncomputable def m_law (S : Orc) : ST := blk (m_law_q1_0 S)

noncomputable def m_names : List String := ["is_number", "is_name", "is_kind", "is_formed", "inner_of", "counted", "checked", "_law_cell_at", "_law_mixed", "_law_whole", "_law_refusal", "_law_level", "_law_bad", "_law_holds", "law"]

noncomputable def m_l : List (String × Nat × (Orc → ST)) := [("is_number", 1, m_is_number), ("is_name", 1, m_is_name), ("is_kind", 1, m_is_kind), ("is_formed", 1, m_is_formed), ("inner_of", 2, m_inner_of), ("counted", 3, m_counted), ("checked", 1, m_checked), ("_law_cell_at", 2, m__law_cell_at), ("_law_mixed", 2, m__law_mixed), ("_law_whole", 1, m__law_whole), ("_law_refusal", 1, m__law_refusal), ("_law_level", 5, m__law_level), ("_law_bad", 1, m__law_bad), ("_law_holds", 3, m__law_holds), ("law", 1, m_law)]

noncomputable def m_v_is_number : List (Str × Nat) := [(Str.ofString "thing", 0)]

theorem m_s_is_number {C : Cx} {d : Nat} {S : Orc} (hC : CxOK C) (hM : Mods C) {aA : Addr} {ca : Nat → Addr} (hE : ExcC C aA ca) (hG : Consts C) (hF : Fns C m_names) (hS : GoodOrc C d S) : SimSs C d ⟨(recAt PySem.Challenge.rw_uf030023_04.prog 10).scope, m_v_is_number⟩ (recAt PySem.Challenge.rw_uf030023_04.prog 10).body (m_is_number S) := by
  have hv0 : Sc.has ⟨(recAt PySem.Challenge.rw_uf030023_04.prog 10).scope, m_v_is_number⟩ (Str.ofString "thing") 0 = true := by decide +kernel
  refine simSs_cons ?_ ?_
  refine sim_ret ?_
  refine sim_and ?_
  refine .cons ?_ ?_
  refine sim_isi (T := .int) hC ?_ ?_ ?_ ?_
  refine sim_nm ?_
  exact hv0
  decide +kernel
  decide +kernel
  rfl
  refine .cons ?_ ?_
  refine sim_not ?_
  refine sim_isi (T := .bool) hC ?_ ?_ ?_ ?_
  refine sim_nm ?_
  exact hv0
  decide +kernel
  decide +kernel
  rfl
  refine .cons ?_ ?_
  refine sim_cmp2 ?_ ?_ ?_ ?_
  refine sim_int _ _ _
  refine sim_nm ?_
  exact hv0
  refine sim_int _ _ _
  rfl
  refine .nil
  refine simSs_nil

theorem m_f_is_number {C : Cx} (hC : CxOK C) (hM : Mods C) {aA : Addr} {ca : Nat → Addr} (hE : ExcC C aA ca) (hG : Consts C) (hF : Fns C m_names) (hD : Fun C (Str.ofString "is_number") (recAt PySem.Challenge.rw_uf030023_04.prog 10)) : DefFit C ("is_number", 1, m_is_number) :=
  ⟨(recAt PySem.Challenge.rw_uf030023_04.prog 10), m_v_is_number, [Str.ofString "thing"], hD, by decide +kernel, fun pm code doc xs h => by
    obtain ⟨y0, rfl⟩ := len1 h
    kernel_rfl, rfl, fun d S hS => m_s_is_number hC hM hE hG hF hS⟩

noncomputable def m_v_is_name : List (Str × Nat) := [(Str.ofString "thing", 0), (Str.ofString "sign", 1)]

theorem m_s_is_name {C : Cx} {d : Nat} {S : Orc} (hC : CxOK C) (hM : Mods C) {aA : Addr} {ca : Nat → Addr} (hE : ExcC C aA ca) (hG : Consts C) (hF : Fns C m_names) (hS : GoodOrc C d S) : SimSs C d ⟨(recAt PySem.Challenge.rw_uf030023_04.prog 11).scope, m_v_is_name⟩ (recAt PySem.Challenge.rw_uf030023_04.prog 11).body (m_is_name S) := by
  have hv0 : Sc.has ⟨(recAt PySem.Challenge.rw_uf030023_04.prog 11).scope, m_v_is_name⟩ (Str.ofString "thing") 0 = true := by decide +kernel
  have hv1 : Sc.has ⟨(recAt PySem.Challenge.rw_uf030023_04.prog 11).scope, m_v_is_name⟩ (Str.ofString "sign") 1 = true := by decide +kernel
  refine simSs_cons ?_ ?_
  refine sim_if ?_ ?_ ?_
  refine simT_or ?_
  refine .cons ?_ ?_
  refine simT_not ?_
  refine simT_val ?_ ?_
  refine sim_isi (T := .str) hC ?_ ?_ ?_ ?_
  refine sim_nm ?_
  exact hv0
  decide +kernel
  decide +kernel
  rfl
  trivial
  refine .cons ?_ ?_
  refine simT_not ?_
  refine simT_cmp2 ?_ ?_ ?_ ?_
  refine sim_int _ _ _
  refine sim_len hC ?_ ?_ ?_
  refine sim_nm ?_
  exact hv0
  decide +kernel
  rfl
  refine sim_int _ _ _
  rfl
  refine .nil
  refine simSs_cons ?_ ?_
  refine sim_ret ?_
  refine sim_bool _ _ _
  refine simSs_nil
  refine simSs_nil
  refine simSs_cons ?_ ?_
  refine sim_for ?_ ?_ ?_ ?_
  refine simI_str ?_
  refine sim_nm ?_
  exact hv0
  refine simSs_cons ?_ ?_
  refine sim_if ?_ ?_ ?_
  refine simT_notInS ?_ ?_ ?_
  refine sim_nm ?_
  exact hv1
  refine sim_gk hC hG.LETTERS ?_
  decide +kernel
  rfl
  refine simSs_cons ?_ ?_
  refine sim_ret ?_
  refine sim_bool _ _ _
  refine simSs_nil
  refine simSs_nil
  refine simSs_nil
  exact hv1
  rfl
  refine simSs_cons ?_ ?_
  refine sim_ret ?_
  refine sim_bool _ _ _
  refine simSs_nil

theorem m_f_is_name {C : Cx} (hC : CxOK C) (hM : Mods C) {aA : Addr} {ca : Nat → Addr} (hE : ExcC C aA ca) (hG : Consts C) (hF : Fns C m_names) (hD : Fun C (Str.ofString "is_name") (recAt PySem.Challenge.rw_uf030023_04.prog 11)) : DefFit C ("is_name", 1, m_is_name) :=
  ⟨(recAt PySem.Challenge.rw_uf030023_04.prog 11), m_v_is_name, [Str.ofString "thing"], hD, by decide +kernel, fun pm code doc xs h => by
    obtain ⟨y0, rfl⟩ := len1 h
    kernel_rfl, rfl, fun d S hS => m_s_is_name hC hM hE hG hF hS⟩

noncomputable def m_v_is_kind : List (Str × Nat) := [(Str.ofString "thing", 0)]

theorem m_s_is_kind {C : Cx} {d : Nat} {S : Orc} (hC : CxOK C) (hM : Mods C) {aA : Addr} {ca : Nat → Addr} (hE : ExcC C aA ca) (hG : Consts C) (hF : Fns C m_names) (hS : GoodOrc C d S) : SimSs C d ⟨(recAt PySem.Challenge.rw_uf030023_04.prog 12).scope, m_v_is_kind⟩ (recAt PySem.Challenge.rw_uf030023_04.prog 12).body (m_is_kind S) := by
  have hv0 : Sc.has ⟨(recAt PySem.Challenge.rw_uf030023_04.prog 12).scope, m_v_is_kind⟩ (Str.ofString "thing") 0 = true := by decide +kernel
  refine simSs_cons ?_ ?_
  refine sim_ret ?_
  refine sim_and ?_
  refine .cons ?_ ?_
  refine sim_isi (T := .str) hC ?_ ?_ ?_ ?_
  refine sim_nm ?_
  exact hv0
  decide +kernel
  decide +kernel
  rfl
  refine .cons ?_ ?_
  refine sim_cmp ?_ ?_ ?_
  refine sim_nm ?_
  exact hv0
  refine sim_gk hC hG.KINDS ?_
  decide +kernel
  rfl
  refine .nil
  refine simSs_nil

theorem m_f_is_kind {C : Cx} (hC : CxOK C) (hM : Mods C) {aA : Addr} {ca : Nat → Addr} (hE : ExcC C aA ca) (hG : Consts C) (hF : Fns C m_names) (hD : Fun C (Str.ofString "is_kind") (recAt PySem.Challenge.rw_uf030023_04.prog 12)) : DefFit C ("is_kind", 1, m_is_kind) :=
  ⟨(recAt PySem.Challenge.rw_uf030023_04.prog 12), m_v_is_kind, [Str.ofString "thing"], hD, by decide +kernel, fun pm code doc xs h => by
    obtain ⟨y0, rfl⟩ := len1 h
    kernel_rfl, rfl, fun d S hS => m_s_is_kind hC hM hE hG hF hS⟩

noncomputable def m_v_is_formed : List (Str × Nat) := [(Str.ofString "piece", 0)]

theorem m_s_is_formed {C : Cx} {d : Nat} {S : Orc} (hC : CxOK C) (hM : Mods C) {aA : Addr} {ca : Nat → Addr} (hE : ExcC C aA ca) (hG : Consts C) (hF : Fns C m_names) (hS : GoodOrc C d S) : SimSs C d ⟨(recAt PySem.Challenge.rw_uf030023_04.prog 13).scope, m_v_is_formed⟩ (recAt PySem.Challenge.rw_uf030023_04.prog 13).body (m_is_formed S) := by
  have hv0 : Sc.has ⟨(recAt PySem.Challenge.rw_uf030023_04.prog 13).scope, m_v_is_formed⟩ (Str.ofString "piece") 0 = true := by decide +kernel
  refine simSs_cons ?_ ?_
  refine sim_if ?_ ?_ ?_
  refine simT_or ?_
  refine .cons ?_ ?_
  refine simT_not ?_
  refine simT_val ?_ ?_
  refine sim_isi (T := .tuple) hC ?_ ?_ ?_ ?_
  refine sim_nm ?_
  exact hv0
  decide +kernel
  decide +kernel
  rfl
  trivial
  refine .cons ?_ ?_
  refine simT_cmp ?_ ?_ ?_
  refine sim_len hC ?_ ?_ ?_
  refine sim_nm ?_
  exact hv0
  decide +kernel
  rfl
  refine sim_int _ _ _
  rfl
  refine .cons ?_ ?_
  refine simT_not ?_
  refine simT_val ?_ ?_
  refine sim_isi (T := .str) hC ?_ ?_ ?_ ?_
  refine sim_idx ?_ ?_
  refine sim_nm ?_
  exact hv0
  refine sim_int _ _ _
  decide +kernel
  decide +kernel
  rfl
  trivial
  refine .nil
  refine simSs_cons ?_ ?_
  refine sim_ret ?_
  refine sim_bool _ _ _
  refine simSs_nil
  refine simSs_nil
  refine simSs_cons ?_ ?_
  refine sim_if ?_ ?_ ?_
  refine simT_cmp ?_ ?_ ?_
  refine sim_dget ?_ ?_ ?_ ?_ ?_ ?_
  refine sim_gk hC hG.LENGTHS ?_
  decide +kernel
  refine sim_idx ?_ ?_
  refine sim_nm ?_
  exact hv0
  refine sim_int _ _ _
  refine sim_int _ _ _
  rfl
  rfl
  rfl
  refine sim_len hC ?_ ?_ ?_
  refine sim_nm ?_
  exact hv0
  decide +kernel
  rfl
  rfl
  refine simSs_cons ?_ ?_
  refine sim_ret ?_
  refine sim_bool _ _ _
  refine simSs_nil
  refine simSs_nil
  refine simSs_cons ?_ ?_
  refine sim_if ?_ ?_ ?_
  refine simT_cmp ?_ ?_ ?_
  refine sim_idx ?_ ?_
  refine sim_nm ?_
  exact hv0
  refine sim_int _ _ _
  refine sim_str _ _ _
  rfl
  refine simSs_cons ?_ ?_
  refine sim_ret ?_
  refine sim_callP hC hS (hF _ (by decide +kernel)) ?_ ?_ ?_
  refine .cons ?_ ?_
  refine sim_idx ?_ ?_
  refine sim_nm ?_
  exact hv0
  refine sim_int _ _ _
  refine .nil
  decide +kernel
  rfl
  refine simSs_nil
  refine simSs_nil
  refine simSs_cons ?_ ?_
  refine sim_if ?_ ?_ ?_
  refine simT_cmp ?_ ?_ ?_
  refine sim_idx ?_ ?_
  refine sim_nm ?_
  exact hv0
  refine sim_int _ _ _
  refine sim_tup ?_ ?_ ?_
  refine .cons ?_ ?_
  refine sim_str _ _ _
  refine .cons ?_ ?_
  refine sim_str _ _ _
  refine .nil
  rfl
  decide
  rfl
  refine simSs_cons ?_ ?_
  refine sim_ret ?_
  refine sim_callP hC hS (hF _ (by decide +kernel)) ?_ ?_ ?_
  refine .cons ?_ ?_
  refine sim_idx ?_ ?_
  refine sim_nm ?_
  exact hv0
  refine sim_int _ _ _
  refine .nil
  decide +kernel
  rfl
  refine simSs_nil
  refine simSs_nil
  refine simSs_cons ?_ ?_
  refine sim_if ?_ ?_ ?_
  refine simT_cmp ?_ ?_ ?_
  refine sim_idx ?_ ?_
  refine sim_nm ?_
  exact hv0
  refine sim_int _ _ _
  refine sim_str _ _ _
  rfl
  refine simSs_cons ?_ ?_
  refine sim_ret ?_
  refine sim_callP hC hS (hF _ (by decide +kernel)) ?_ ?_ ?_
  refine .cons ?_ ?_
  refine sim_idx ?_ ?_
  refine sim_nm ?_
  exact hv0
  refine sim_int _ _ _
  refine .nil
  decide +kernel
  rfl
  refine simSs_nil
  refine simSs_nil
  refine simSs_cons ?_ ?_
  refine sim_if ?_ ?_ ?_
  refine simT_cmp ?_ ?_ ?_
  refine sim_idx ?_ ?_
  refine sim_nm ?_
  exact hv0
  refine sim_int _ _ _
  refine sim_str _ _ _
  rfl
  refine simSs_cons ?_ ?_
  refine sim_ret ?_
  refine sim_and ?_
  refine .cons ?_ ?_
  refine sim_callP hC hS (hF _ (by decide +kernel)) ?_ ?_ ?_
  refine .cons ?_ ?_
  refine sim_idx ?_ ?_
  refine sim_nm ?_
  exact hv0
  refine sim_int _ _ _
  refine .nil
  decide +kernel
  rfl
  refine .cons ?_ ?_
  refine sim_callP hC hS (hF _ (by decide +kernel)) ?_ ?_ ?_
  refine .cons ?_ ?_
  refine sim_idx ?_ ?_
  refine sim_nm ?_
  exact hv0
  refine sim_int _ _ _
  refine .nil
  decide +kernel
  rfl
  refine .nil
  refine simSs_nil
  refine simSs_nil
  refine simSs_cons ?_ ?_
  refine sim_ret ?_
  refine sim_bool _ _ _
  refine simSs_nil

theorem m_f_is_formed {C : Cx} (hC : CxOK C) (hM : Mods C) {aA : Addr} {ca : Nat → Addr} (hE : ExcC C aA ca) (hG : Consts C) (hF : Fns C m_names) (hD : Fun C (Str.ofString "is_formed") (recAt PySem.Challenge.rw_uf030023_04.prog 13)) : DefFit C ("is_formed", 1, m_is_formed) :=
  ⟨(recAt PySem.Challenge.rw_uf030023_04.prog 13), m_v_is_formed, [Str.ofString "piece"], hD, by decide +kernel, fun pm code doc xs h => by
    obtain ⟨y0, rfl⟩ := len1 h
    kernel_rfl, rfl, fun d S hS => m_s_is_formed hC hM hE hG hF hS⟩

noncomputable def m_v_inner_of : List (Str × Nat) := [(Str.ofString "piece", 0), (Str.ofString "known", 1)]

theorem m_s_inner_of {C : Cx} {d : Nat} {S : Orc} (hC : CxOK C) (hM : Mods C) {aA : Addr} {ca : Nat → Addr} (hE : ExcC C aA ca) (hG : Consts C) (hF : Fns C m_names) (hS : GoodOrc C d S) : SimSs C d ⟨(recAt PySem.Challenge.rw_uf030023_04.prog 14).scope, m_v_inner_of⟩ (recAt PySem.Challenge.rw_uf030023_04.prog 14).body (m_inner_of S) := by
  have hv0 : Sc.has ⟨(recAt PySem.Challenge.rw_uf030023_04.prog 14).scope, m_v_inner_of⟩ (Str.ofString "piece") 0 = true := by decide +kernel
  have hv1 : Sc.has ⟨(recAt PySem.Challenge.rw_uf030023_04.prog 14).scope, m_v_inner_of⟩ (Str.ofString "known") 1 = true := by decide +kernel
  refine simSs_cons ?_ ?_
  refine sim_if ?_ ?_ ?_
  refine simT_cmp ?_ ?_ ?_
  refine sim_idx ?_ ?_
  refine sim_nm ?_
  exact hv0
  refine sim_int _ _ _
  refine sim_tup ?_ ?_ ?_
  refine .cons ?_ ?_
  refine sim_str _ _ _
  refine .cons ?_ ?_
  refine sim_str _ _ _
  refine .nil
  rfl
  decide
  rfl
  refine simSs_cons ?_ ?_
  refine sim_ret ?_
  refine sim_lcomp ?_ ?_ ?_ ?_ ?_
  refine simI_val ?_
  refine sim_slc ?_ ?_ ?_
  refine sim_nm ?_
  exact hv0
  refine .some ?_
  refine sim_int _ _ _
  refine .none
  refine sim_tup ?_ ?_ ?_
  refine .cons ?_ ?_
  refine sim_nm ?_
  decide +kernel
  refine .cons ?_ ?_
  refine sim_nm ?_
  decide +kernel
  refine .nil
  rfl
  decide
  refine .none
  decide +kernel
  rfl
  refine simSs_nil
  refine simSs_nil
  refine simSs_cons ?_ ?_
  refine sim_if ?_ ?_ ?_
  refine simT_cmp ?_ ?_ ?_
  refine sim_idx ?_ ?_
  refine sim_nm ?_
  exact hv0
  refine sim_int _ _ _
  refine sim_str _ _ _
  rfl
  refine simSs_cons ?_ ?_
  refine sim_ret ?_
  refine sim_lst ?_ ?_ ?_
  refine .cons ?_ ?_
  refine sim_tup ?_ ?_ ?_
  refine .cons ?_ ?_
  refine sim_idx ?_ ?_
  refine sim_nm ?_
  exact hv0
  refine sim_int _ _ _
  refine .cons ?_ ?_
  refine sim_nm ?_
  exact hv1
  refine .nil
  rfl
  decide
  refine .cons ?_ ?_
  refine sim_tup ?_ ?_ ?_
  refine .cons ?_ ?_
  refine sim_idx ?_ ?_
  refine sim_nm ?_
  exact hv0
  refine sim_int _ _ _
  refine .cons ?_ ?_
  refine sim_bin ?_ ?_
  refine sim_nm ?_
  exact hv1
  refine sim_tup ?_ ?_ ?_
  refine .cons ?_ ?_
  refine sim_idx ?_ ?_
  refine sim_nm ?_
  exact hv0
  refine sim_int _ _ _
  refine .nil
  rfl
  decide
  refine .nil
  rfl
  decide
  refine .nil
  rfl
  decide
  refine simSs_nil
  refine simSs_nil
  refine simSs_cons ?_ ?_
  refine sim_if ?_ ?_ ?_
  refine simT_cmp ?_ ?_ ?_
  refine sim_idx ?_ ?_
  refine sim_nm ?_
  exact hv0
  refine sim_int _ _ _
  refine sim_str _ _ _
  rfl
  refine simSs_cons ?_ ?_
  refine sim_ret ?_
  refine sim_lst ?_ ?_ ?_
  refine .cons ?_ ?_
  refine sim_tup ?_ ?_ ?_
  refine .cons ?_ ?_
  refine sim_idx ?_ ?_
  refine sim_nm ?_
  exact hv0
  refine sim_int _ _ _
  refine .cons ?_ ?_
  refine sim_nm ?_
  exact hv1
  refine .nil
  rfl
  decide
  refine .nil
  rfl
  decide
  refine simSs_nil
  refine simSs_nil
  refine simSs_cons ?_ ?_
  refine sim_if ?_ ?_ ?_
  refine simT_cmp ?_ ?_ ?_
  refine sim_idx ?_ ?_
  refine sim_nm ?_
  exact hv0
  refine sim_int _ _ _
  refine sim_str _ _ _
  rfl
  refine simSs_cons ?_ ?_
  refine sim_ret ?_
  refine sim_lst ?_ ?_ ?_
  refine .cons ?_ ?_
  refine sim_tup ?_ ?_ ?_
  refine .cons ?_ ?_
  refine sim_idx ?_ ?_
  refine sim_nm ?_
  exact hv0
  refine sim_int _ _ _
  refine .cons ?_ ?_
  refine sim_bin ?_ ?_
  refine sim_nm ?_
  exact hv1
  refine sim_tup ?_ ?_ ?_
  refine .cons ?_ ?_
  refine sim_idx ?_ ?_
  refine sim_nm ?_
  exact hv0
  refine sim_int _ _ _
  refine .nil
  rfl
  decide
  refine .nil
  rfl
  decide
  refine .cons ?_ ?_
  refine sim_tup ?_ ?_ ?_
  refine .cons ?_ ?_
  refine sim_idx ?_ ?_
  refine sim_nm ?_
  exact hv0
  refine sim_int _ _ _
  refine .cons ?_ ?_
  refine sim_nm ?_
  exact hv1
  refine .nil
  rfl
  decide
  refine .nil
  rfl
  decide
  refine simSs_nil
  refine simSs_nil
  refine simSs_cons ?_ ?_
  refine sim_ret ?_
  refine sim_lst ?_ ?_ ?_
  refine .nil
  rfl
  decide
  refine simSs_nil

theorem m_f_inner_of {C : Cx} (hC : CxOK C) (hM : Mods C) {aA : Addr} {ca : Nat → Addr} (hE : ExcC C aA ca) (hG : Consts C) (hF : Fns C m_names) (hD : Fun C (Str.ofString "inner_of") (recAt PySem.Challenge.rw_uf030023_04.prog 14)) : DefFit C ("inner_of", 2, m_inner_of) :=
  ⟨(recAt PySem.Challenge.rw_uf030023_04.prog 14), m_v_inner_of, [Str.ofString "piece", Str.ofString "known"], hD, by decide +kernel, fun pm code doc xs h => by
    obtain ⟨y0, y1, rfl⟩ := len2 h
    kernel_rfl, rfl, fun d S hS => m_s_inner_of hC hM hE hG hF hS⟩

noncomputable def m_v_counted : List (Str × Nat) := [(Str.ofString "piece", 0), (Str.ofString "level", 1), (Str.ofString "known", 2), (Str.ofString "total", 3), (Str.ofString "inner", 4), (Str.ofString "names", 5)]

theorem m_s_counted {C : Cx} {d : Nat} {S : Orc} (hC : CxOK C) (hM : Mods C) {aA : Addr} {ca : Nat → Addr} (hE : ExcC C aA ca) (hG : Consts C) (hF : Fns C m_names) (hS : GoodOrc C d S) : SimSs C d ⟨(recAt PySem.Challenge.rw_uf030023_04.prog 15).scope, m_v_counted⟩ (recAt PySem.Challenge.rw_uf030023_04.prog 15).body (m_counted S) := by
  have hv0 : Sc.has ⟨(recAt PySem.Challenge.rw_uf030023_04.prog 15).scope, m_v_counted⟩ (Str.ofString "piece") 0 = true := by decide +kernel
  have hv1 : Sc.has ⟨(recAt PySem.Challenge.rw_uf030023_04.prog 15).scope, m_v_counted⟩ (Str.ofString "level") 1 = true := by decide +kernel
  have hv2 : Sc.has ⟨(recAt PySem.Challenge.rw_uf030023_04.prog 15).scope, m_v_counted⟩ (Str.ofString "known") 2 = true := by decide +kernel
  have hv3 : Sc.has ⟨(recAt PySem.Challenge.rw_uf030023_04.prog 15).scope, m_v_counted⟩ (Str.ofString "total") 3 = true := by decide +kernel
  have hv4 : Sc.has ⟨(recAt PySem.Challenge.rw_uf030023_04.prog 15).scope, m_v_counted⟩ (Str.ofString "inner") 4 = true := by decide +kernel
  have hv5 : Sc.has ⟨(recAt PySem.Challenge.rw_uf030023_04.prog 15).scope, m_v_counted⟩ (Str.ofString "names") 5 = true := by decide +kernel
  refine simSs_cons ?_ ?_
  refine sim_if ?_ ?_ ?_
  refine simT_cmp ?_ ?_ ?_
  refine sim_nm ?_
  exact hv1
  refine sim_gk hC hG.MOST_LEVELS ?_
  decide +kernel
  rfl
  refine simSs_cons ?_ ?_
  refine sim_raise (c := 0) hC hE ?_ ?_
  rfl
  decide +kernel
  refine simSs_nil
  refine simSs_nil
  refine simSs_cons ?_ ?_
  refine sim_if ?_ ?_ ?_
  refine simT_not ?_
  refine simT_val ?_ ?_
  refine sim_callP hC hS (hF _ (by decide +kernel)) ?_ ?_ ?_
  refine .cons ?_ ?_
  refine sim_nm ?_
  exact hv0
  refine .nil
  decide +kernel
  rfl
  trivial
  refine simSs_cons ?_ ?_
  refine sim_raise (c := 1) hC hE ?_ ?_
  rfl
  decide +kernel
  refine simSs_nil
  refine simSs_nil
  refine simSs_cons ?_ ?_
  refine sim_if ?_ ?_ ?_
  refine simT_and ?_
  refine .cons ?_ ?_
  refine simT_cmp ?_ ?_ ?_
  refine sim_idx ?_ ?_
  refine sim_nm ?_
  exact hv0
  refine sim_int _ _ _
  refine sim_str _ _ _
  rfl
  refine .cons ?_ ?_
  refine simT_cmp ?_ ?_ ?_
  refine sim_idx ?_ ?_
  refine sim_nm ?_
  exact hv0
  refine sim_int _ _ _
  refine sim_nm ?_
  exact hv2
  rfl
  refine .nil
  refine simSs_cons ?_ ?_
  refine sim_raise (c := 2) hC hE ?_ ?_
  rfl
  decide +kernel
  refine simSs_nil
  refine simSs_nil
  refine simSs_cons ?_ ?_
  refine sim_asg ?_ ?_ ?_
  refine sim_int _ _ _
  exact hv3
  rfl
  refine simSs_cons ?_ ?_
  refine sim_for2 ?_ ?_ ?_ ?_ ?_
  refine sim_callP hC hS (hF _ (by decide +kernel)) ?_ ?_ ?_
  refine .cons ?_ ?_
  refine sim_nm ?_
  exact hv0
  refine .cons ?_ ?_
  refine sim_nm ?_
  exact hv2
  refine .nil
  decide +kernel
  rfl
  refine simSs_cons ?_ ?_
  refine sim_asg ?_ ?_ ?_
  refine sim_bin ?_ ?_
  refine sim_nm ?_
  exact hv3
  refine sim_callP hC hS (hF _ (by decide +kernel)) ?_ ?_ ?_
  refine .cons ?_ ?_
  refine sim_nm ?_
  exact hv4
  refine .cons ?_ ?_
  refine sim_bin ?_ ?_
  refine sim_nm ?_
  exact hv1
  refine sim_int _ _ _
  refine .cons ?_ ?_
  refine sim_nm ?_
  exact hv5
  refine .nil
  decide +kernel
  rfl
  exact hv3
  rfl
  refine simSs_nil
  exact hv4
  exact hv5
  rfl
  refine simSs_cons ?_ ?_
  refine sim_ret ?_
  refine sim_nm ?_
  exact hv3
  refine simSs_nil

theorem m_f_counted {C : Cx} (hC : CxOK C) (hM : Mods C) {aA : Addr} {ca : Nat → Addr} (hE : ExcC C aA ca) (hG : Consts C) (hF : Fns C m_names) (hD : Fun C (Str.ofString "counted") (recAt PySem.Challenge.rw_uf030023_04.prog 15)) : DefFit C ("counted", 3, m_counted) :=
  ⟨(recAt PySem.Challenge.rw_uf030023_04.prog 15), m_v_counted, [Str.ofString "piece", Str.ofString "level", Str.ofString "known"], hD, by decide +kernel, fun pm code doc xs h => by
    obtain ⟨y0, y1, y2, rfl⟩ := len3 h
    kernel_rfl, rfl, fun d S hS => m_s_counted hC hM hE hG hF hS⟩

noncomputable def m_v_checked : List (Str × Nat) := [(Str.ofString "piece", 0)]

theorem m_s_checked {C : Cx} {d : Nat} {S : Orc} (hC : CxOK C) (hM : Mods C) {aA : Addr} {ca : Nat → Addr} (hE : ExcC C aA ca) (hG : Consts C) (hF : Fns C m_names) (hS : GoodOrc C d S) : SimSs C d ⟨(recAt PySem.Challenge.rw_uf030023_04.prog 16).scope, m_v_checked⟩ (recAt PySem.Challenge.rw_uf030023_04.prog 16).body (m_checked S) := by
  have hv0 : Sc.has ⟨(recAt PySem.Challenge.rw_uf030023_04.prog 16).scope, m_v_checked⟩ (Str.ofString "piece") 0 = true := by decide +kernel
  refine simSs_cons ?_ ?_
  refine sim_ret ?_
  refine sim_callP hC hS (hF _ (by decide +kernel)) ?_ ?_ ?_
  refine .cons ?_ ?_
  refine sim_nm ?_
  exact hv0
  refine .cons ?_ ?_
  refine sim_int _ _ _
  refine .cons ?_ ?_
  refine sim_tup ?_ ?_ ?_
  refine .nil
  rfl
  decide
  refine .nil
  decide +kernel
  rfl
  refine simSs_nil

theorem m_f_checked {C : Cx} (hC : CxOK C) (hM : Mods C) {aA : Addr} {ca : Nat → Addr} (hE : ExcC C aA ca) (hG : Consts C) (hF : Fns C m_names) (hD : Fun C (Str.ofString "checked") (recAt PySem.Challenge.rw_uf030023_04.prog 16)) : DefFit C ("checked", 1, m_checked) :=
  ⟨(recAt PySem.Challenge.rw_uf030023_04.prog 16), m_v_checked, [Str.ofString "piece"], hD, by decide +kernel, fun pm code doc xs h => by
    obtain ⟨y0, rfl⟩ := len1 h
    kernel_rfl, rfl, fun d S hS => m_s_checked hC hM hE hG hF hS⟩

noncomputable def m_v__law_cell_at : List (Str × Nat) := [(Str.ofString "_law_script", 0), (Str.ofString "_law_k", 1)]

theorem m_s__law_cell_at {C : Cx} {d : Nat} {S : Orc} (hC : CxOK C) (hM : Mods C) {aA : Addr} {ca : Nat → Addr} (hE : ExcC C aA ca) (hG : Consts C) (hF : Fns C m_names) (hS : GoodOrc C d S) : SimSs C d ⟨(recAt PySem.Challenge.rw_uf030023_04.prog 18).scope, m_v__law_cell_at⟩ (recAt PySem.Challenge.rw_uf030023_04.prog 18).body (m__law_cell_at S) := by
  have hv0 : Sc.has ⟨(recAt PySem.Challenge.rw_uf030023_04.prog 18).scope, m_v__law_cell_at⟩ (Str.ofString "_law_script") 0 = true := by decide +kernel
  have hv1 : Sc.has ⟨(recAt PySem.Challenge.rw_uf030023_04.prog 18).scope, m_v__law_cell_at⟩ (Str.ofString "_law_k") 1 = true := by decide +kernel
  refine simSs_cons ?_ ?_
  refine sim_if ?_ ?_ ?_
  refine simT_cmp ?_ ?_ ?_
  refine sim_nm ?_
  exact hv1
  refine sim_len hC ?_ ?_ ?_
  refine sim_nm ?_
  exact hv0
  decide +kernel
  rfl
  rfl
  refine simSs_cons ?_ ?_
  refine sim_ret ?_
  refine sim_idx ?_ ?_
  refine sim_nm ?_
  exact hv0
  refine sim_nm ?_
  exact hv1
  refine simSs_nil
  refine simSs_nil
  refine simSs_cons ?_ ?_
  refine sim_ret ?_
  refine sim_int _ _ _
  refine simSs_nil

theorem m_f__law_cell_at {C : Cx} (hC : CxOK C) (hM : Mods C) {aA : Addr} {ca : Nat → Addr} (hE : ExcC C aA ca) (hG : Consts C) (hF : Fns C m_names) (hD : Fun C (Str.ofString "_law_cell_at") (recAt PySem.Challenge.rw_uf030023_04.prog 18)) : DefFit C ("_law_cell_at", 2, m__law_cell_at) :=
  ⟨(recAt PySem.Challenge.rw_uf030023_04.prog 18), m_v__law_cell_at, [Str.ofString "_law_script", Str.ofString "_law_k"], hD, by decide +kernel, fun pm code doc xs h => by
    obtain ⟨y0, y1, rfl⟩ := len2 h
    kernel_rfl, rfl, fun d S hS => m_s__law_cell_at hC hM hE hG hF hS⟩

noncomputable def m_v__law_mixed : List (Str × Nat) := [(Str.ofString "_law_cell", 0), (Str.ofString "_law_k", 1), (Str.ofString "_law_number", 2)]

theorem m_s__law_mixed {C : Cx} {d : Nat} {S : Orc} (hC : CxOK C) (hM : Mods C) {aA : Addr} {ca : Nat → Addr} (hE : ExcC C aA ca) (hG : Consts C) (hF : Fns C m_names) (hS : GoodOrc C d S) : SimSs C d ⟨(recAt PySem.Challenge.rw_uf030023_04.prog 19).scope, m_v__law_mixed⟩ (recAt PySem.Challenge.rw_uf030023_04.prog 19).body (m__law_mixed S) := by
  have hv0 : Sc.has ⟨(recAt PySem.Challenge.rw_uf030023_04.prog 19).scope, m_v__law_mixed⟩ (Str.ofString "_law_cell") 0 = true := by decide +kernel
  have hv1 : Sc.has ⟨(recAt PySem.Challenge.rw_uf030023_04.prog 19).scope, m_v__law_mixed⟩ (Str.ofString "_law_k") 1 = true := by decide +kernel
  have hv2 : Sc.has ⟨(recAt PySem.Challenge.rw_uf030023_04.prog 19).scope, m_v__law_mixed⟩ (Str.ofString "_law_number") 2 = true := by decide +kernel
  refine simSs_cons ?_ ?_
  refine sim_asg ?_ ?_ ?_
  refine sim_bin ?_ ?_
  refine sim_bin ?_ ?_
  refine sim_bin ?_ ?_
  refine sim_bin ?_ ?_
  refine sim_nm ?_
  exact hv0
  refine sim_bin ?_ ?_
  refine sim_int _ _ _
  refine sim_nm ?_
  exact hv1
  refine sim_int _ _ _
  refine sim_int _ _ _
  refine sim_int _ _ _
  exact hv2
  rfl
  refine simSs_cons ?_ ?_
  refine sim_ret ?_
  refine sim_bin ?_ ?_
  refine sim_bin ?_ ?_
  refine sim_nm ?_
  exact hv2
  refine sim_nm ?_
  exact hv2
  refine sim_int _ _ _
  refine simSs_nil

theorem m_f__law_mixed {C : Cx} (hC : CxOK C) (hM : Mods C) {aA : Addr} {ca : Nat → Addr} (hE : ExcC C aA ca) (hG : Consts C) (hF : Fns C m_names) (hD : Fun C (Str.ofString "_law_mixed") (recAt PySem.Challenge.rw_uf030023_04.prog 19)) : DefFit C ("_law_mixed", 2, m__law_mixed) :=
  ⟨(recAt PySem.Challenge.rw_uf030023_04.prog 19), m_v__law_mixed, [Str.ofString "_law_cell", Str.ofString "_law_k"], hD, by decide +kernel, fun pm code doc xs h => by
    obtain ⟨y0, y1, rfl⟩ := len2 h
    kernel_rfl, rfl, fun d S hS => m_s__law_mixed hC hM hE hG hF hS⟩

noncomputable def m_v__law_whole : List (Str × Nat) := [(Str.ofString "_law_found", 0)]

theorem m_s__law_whole {C : Cx} {d : Nat} {S : Orc} (hC : CxOK C) (hM : Mods C) {aA : Addr} {ca : Nat → Addr} (hE : ExcC C aA ca) (hG : Consts C) (hF : Fns C m_names) (hS : GoodOrc C d S) : SimSs C d ⟨(recAt PySem.Challenge.rw_uf030023_04.prog 20).scope, m_v__law_whole⟩ (recAt PySem.Challenge.rw_uf030023_04.prog 20).body (m__law_whole S) := by
  have hv0 : Sc.has ⟨(recAt PySem.Challenge.rw_uf030023_04.prog 20).scope, m_v__law_whole⟩ (Str.ofString "_law_found") 0 = true := by decide +kernel
  refine simSs_cons ?_ ?_
  refine sim_ret ?_
  refine sim_and ?_
  refine .cons ?_ ?_
  refine sim_isi (T := .int) hC ?_ ?_ ?_ ?_
  refine sim_nm ?_
  exact hv0
  decide +kernel
  decide +kernel
  rfl
  refine .cons ?_ ?_
  refine sim_not ?_
  refine sim_isi (T := .bool) hC ?_ ?_ ?_ ?_
  refine sim_nm ?_
  exact hv0
  decide +kernel
  decide +kernel
  rfl
  refine .nil
  refine simSs_nil

theorem m_f__law_whole {C : Cx} (hC : CxOK C) (hM : Mods C) {aA : Addr} {ca : Nat → Addr} (hE : ExcC C aA ca) (hG : Consts C) (hF : Fns C m_names) (hD : Fun C (Str.ofString "_law_whole") (recAt PySem.Challenge.rw_uf030023_04.prog 20)) : DefFit C ("_law_whole", 1, m__law_whole) :=
  ⟨(recAt PySem.Challenge.rw_uf030023_04.prog 20), m_v__law_whole, [Str.ofString "_law_found"], hD, by decide +kernel, fun pm code doc xs h => by
    obtain ⟨y0, rfl⟩ := len1 h
    kernel_rfl, rfl, fun d S hS => m_s__law_whole hC hM hE hG hF hS⟩

noncomputable def m_v__law_refusal : List (Str × Nat) := [(Str.ofString "_law_piece", 0), (Str.ofString "e", 1), (Str.ofString "_law_found", 2)]

theorem m_s__law_refusal {C : Cx} {d : Nat} {S : Orc} (hC : CxOK C) (hM : Mods C) {aA : Addr} {ca : Nat → Addr} (hE : ExcC C aA ca) (hG : Consts C) (hF : Fns C m_names) (hS : GoodOrc C d S) : SimSs C d ⟨(recAt PySem.Challenge.rw_uf030023_04.prog 21).scope, m_v__law_refusal⟩ (recAt PySem.Challenge.rw_uf030023_04.prog 21).body (m__law_refusal S) := by
  have hv0 : Sc.has ⟨(recAt PySem.Challenge.rw_uf030023_04.prog 21).scope, m_v__law_refusal⟩ (Str.ofString "_law_piece") 0 = true := by decide +kernel
  refine simSs_cons ?_ ?_
  refine sim_try hC hE ?_ ?_
  refine simSs_cons ?_ ?_
  refine sim_exprA ?_
  refine sim_callP hC hS (hF _ (by decide +kernel)) ?_ ?_ ?_
  refine .cons ?_ ?_
  refine sim_nm ?_
  exact hv0
  refine .nil
  decide +kernel
  rfl
  refine simSs_nil
  decide +kernel
  refine simSs_cons ?_ ?_
  refine sim_ret ?_
  refine sim_str _ _ _
  refine simSs_nil

theorem m_f__law_refusal {C : Cx} (hC : CxOK C) (hM : Mods C) {aA : Addr} {ca : Nat → Addr} (hE : ExcC C aA ca) (hG : Consts C) (hF : Fns C m_names) (hD : Fun C (Str.ofString "_law_refusal") (recAt PySem.Challenge.rw_uf030023_04.prog 21)) : DefFit C ("_law_refusal", 1, m__law_refusal) :=
  ⟨(recAt PySem.Challenge.rw_uf030023_04.prog 21), m_v__law_refusal, [Str.ofString "_law_piece"], hD, by decide +kernel, fun pm code doc xs h => by
    obtain ⟨y0, rfl⟩ := len1 h
    kernel_rfl, rfl, fun d S hS => m_s__law_refusal hC hM hE hG hF hS⟩

noncomputable def m_v__law_level : List (Str × Nat) := [(Str.ofString "_law_way", 0), (Str.ofString "_law_name", 1), (Str.ofString "_law_kind", 2), (Str.ofString "_law_inner", 3), (Str.ofString "_law_other", 4)]

theorem m_s__law_level {C : Cx} {d : Nat} {S : Orc} (hC : CxOK C) (hM : Mods C) {aA : Addr} {ca : Nat → Addr} (hE : ExcC C aA ca) (hG : Consts C) (hF : Fns C m_names) (hS : GoodOrc C d S) : SimSs C d ⟨(recAt PySem.Challenge.rw_uf030023_04.prog 22).scope, m_v__law_level⟩ (recAt PySem.Challenge.rw_uf030023_04.prog 22).body (m__law_level S) := by
  have hv0 : Sc.has ⟨(recAt PySem.Challenge.rw_uf030023_04.prog 22).scope, m_v__law_level⟩ (Str.ofString "_law_way") 0 = true := by decide +kernel
  have hv1 : Sc.has ⟨(recAt PySem.Challenge.rw_uf030023_04.prog 22).scope, m_v__law_level⟩ (Str.ofString "_law_name") 1 = true := by decide +kernel
  have hv2 : Sc.has ⟨(recAt PySem.Challenge.rw_uf030023_04.prog 22).scope, m_v__law_level⟩ (Str.ofString "_law_kind") 2 = true := by decide +kernel
  have hv3 : Sc.has ⟨(recAt PySem.Challenge.rw_uf030023_04.prog 22).scope, m_v__law_level⟩ (Str.ofString "_law_inner") 3 = true := by decide +kernel
  have hv4 : Sc.has ⟨(recAt PySem.Challenge.rw_uf030023_04.prog 22).scope, m_v__law_level⟩ (Str.ofString "_law_other") 4 = true := by decide +kernel
  refine simSs_cons ?_ ?_
  refine sim_if ?_ ?_ ?_
  refine simT_cmp ?_ ?_ ?_
  refine sim_nm ?_
  exact hv0
  refine sim_int _ _ _
  rfl
  refine simSs_cons ?_ ?_
  refine sim_ret ?_
  refine sim_idx ?_ ?_
  refine sim_lst ?_ ?_ ?_
  refine .cons ?_ ?_
  refine sim_tup ?_ ?_ ?_
  refine .cons ?_ ?_
  refine sim_str _ _ _
  refine .cons ?_ ?_
  refine sim_nm ?_
  exact hv3
  refine .cons ?_ ?_
  refine sim_nm ?_
  exact hv4
  refine .nil
  rfl
  decide
  refine .cons ?_ ?_
  refine sim_tup ?_ ?_ ?_
  refine .cons ?_ ?_
  refine sim_str _ _ _
  refine .cons ?_ ?_
  refine sim_nm ?_
  exact hv4
  refine .cons ?_ ?_
  refine sim_nm ?_
  exact hv3
  refine .nil
  rfl
  decide
  refine .nil
  rfl
  decide
  refine sim_nm ?_
  exact hv0
  refine simSs_nil
  refine simSs_nil
  refine simSs_cons ?_ ?_
  refine sim_if ?_ ?_ ?_
  refine simT_cmp ?_ ?_ ?_
  refine sim_nm ?_
  exact hv0
  refine sim_int _ _ _
  rfl
  refine simSs_cons ?_ ?_
  refine sim_ret ?_
  refine sim_idx ?_ ?_
  refine sim_lst ?_ ?_ ?_
  refine .cons ?_ ?_
  refine sim_tup ?_ ?_ ?_
  refine .cons ?_ ?_
  refine sim_str _ _ _
  refine .cons ?_ ?_
  refine sim_nm ?_
  exact hv1
  refine .cons ?_ ?_
  refine sim_nm ?_
  exact hv3
  refine .cons ?_ ?_
  refine sim_nm ?_
  exact hv4
  refine .nil
  rfl
  decide
  refine .cons ?_ ?_
  refine sim_tup ?_ ?_ ?_
  refine .cons ?_ ?_
  refine sim_str _ _ _
  refine .cons ?_ ?_
  refine sim_nm ?_
  exact hv1
  refine .cons ?_ ?_
  refine sim_nm ?_
  exact hv4
  refine .cons ?_ ?_
  refine sim_nm ?_
  exact hv3
  refine .nil
  rfl
  decide
  refine .nil
  rfl
  decide
  refine sim_bin ?_ ?_
  refine sim_nm ?_
  exact hv0
  refine sim_int _ _ _
  refine simSs_nil
  refine simSs_nil
  refine simSs_cons ?_ ?_
  refine sim_if ?_ ?_ ?_
  refine simT_cmp ?_ ?_ ?_
  refine sim_nm ?_
  exact hv0
  refine sim_int _ _ _
  rfl
  refine simSs_cons ?_ ?_
  refine sim_ret ?_
  refine sim_tup ?_ ?_ ?_
  refine .cons ?_ ?_
  refine sim_str _ _ _
  refine .cons ?_ ?_
  refine sim_nm ?_
  exact hv3
  refine .cons ?_ ?_
  refine sim_nm ?_
  exact hv4
  refine .cons ?_ ?_
  refine sim_nm ?_
  exact hv4
  refine .nil
  rfl
  decide
  refine simSs_nil
  refine simSs_nil
  refine simSs_cons ?_ ?_
  refine sim_if ?_ ?_ ?_
  refine simT_cmp ?_ ?_ ?_
  refine sim_nm ?_
  exact hv0
  refine sim_int _ _ _
  rfl
  refine simSs_cons ?_ ?_
  refine sim_ret ?_
  refine sim_idx ?_ ?_
  refine sim_lst ?_ ?_ ?_
  refine .cons ?_ ?_
  refine sim_tup ?_ ?_ ?_
  refine .cons ?_ ?_
  refine sim_str _ _ _
  refine .cons ?_ ?_
  refine sim_nm ?_
  exact hv4
  refine .cons ?_ ?_
  refine sim_nm ?_
  exact hv3
  refine .cons ?_ ?_
  refine sim_nm ?_
  exact hv4
  refine .nil
  rfl
  decide
  refine .cons ?_ ?_
  refine sim_tup ?_ ?_ ?_
  refine .cons ?_ ?_
  refine sim_str _ _ _
  refine .cons ?_ ?_
  refine sim_nm ?_
  exact hv4
  refine .cons ?_ ?_
  refine sim_nm ?_
  exact hv4
  refine .cons ?_ ?_
  refine sim_nm ?_
  exact hv3
  refine .nil
  rfl
  decide
  refine .nil
  rfl
  decide
  refine sim_bin ?_ ?_
  refine sim_nm ?_
  exact hv0
  refine sim_int _ _ _
  refine simSs_nil
  refine simSs_nil
  refine simSs_cons ?_ ?_
  refine sim_if ?_ ?_ ?_
  refine simT_cmp ?_ ?_ ?_
  refine sim_nm ?_
  exact hv0
  refine sim_int _ _ _
  rfl
  refine simSs_cons ?_ ?_
  refine sim_ret ?_
  refine sim_tup ?_ ?_ ?_
  refine .cons ?_ ?_
  refine sim_str _ _ _
  refine .cons ?_ ?_
  refine sim_nm ?_
  exact hv2
  refine .cons ?_ ?_
  refine sim_nm ?_
  exact hv3
  refine .nil
  rfl
  decide
  refine simSs_nil
  refine simSs_nil
  refine simSs_cons ?_ ?_
  refine sim_ret ?_
  refine sim_idx ?_ ?_
  refine sim_lst ?_ ?_ ?_
  refine .cons ?_ ?_
  refine sim_tup ?_ ?_ ?_
  refine .cons ?_ ?_
  refine sim_str _ _ _
  refine .cons ?_ ?_
  refine sim_nm ?_
  exact hv2
  refine .cons ?_ ?_
  refine sim_nm ?_
  exact hv1
  refine .cons ?_ ?_
  refine sim_nm ?_
  exact hv3
  refine .cons ?_ ?_
  refine sim_nm ?_
  exact hv4
  refine .nil
  rfl
  decide
  refine .cons ?_ ?_
  refine sim_tup ?_ ?_ ?_
  refine .cons ?_ ?_
  refine sim_str _ _ _
  refine .cons ?_ ?_
  refine sim_nm ?_
  exact hv2
  refine .cons ?_ ?_
  refine sim_nm ?_
  exact hv1
  refine .cons ?_ ?_
  refine sim_nm ?_
  exact hv4
  refine .cons ?_ ?_
  refine sim_nm ?_
  exact hv3
  refine .nil
  rfl
  decide
  refine .nil
  rfl
  decide
  refine sim_bin ?_ ?_
  refine sim_nm ?_
  exact hv0
  refine sim_int _ _ _
  refine simSs_nil

theorem m_f__law_level {C : Cx} (hC : CxOK C) (hM : Mods C) {aA : Addr} {ca : Nat → Addr} (hE : ExcC C aA ca) (hG : Consts C) (hF : Fns C m_names) (hD : Fun C (Str.ofString "_law_level") (recAt PySem.Challenge.rw_uf030023_04.prog 22)) : DefFit C ("_law_level", 5, m__law_level) :=
  ⟨(recAt PySem.Challenge.rw_uf030023_04.prog 22), m_v__law_level, [Str.ofString "_law_way", Str.ofString "_law_name", Str.ofString "_law_kind", Str.ofString "_law_inner", Str.ofString "_law_other"], hD, by decide +kernel, fun pm code doc xs h => by
    obtain ⟨y0, y1, y2, y3, y4, rfl⟩ := len5 h
    kernel_rfl, rfl, fun d S hS => m_s__law_level hC hM hE hG hF hS⟩

noncomputable def m_v__law_bad : List (Str × Nat) := [(Str.ofString "_law_number", 0), (Str.ofString "_law_some", 1)]

theorem m_s__law_bad {C : Cx} {d : Nat} {S : Orc} (hC : CxOK C) (hM : Mods C) {aA : Addr} {ca : Nat → Addr} (hE : ExcC C aA ca) (hG : Consts C) (hF : Fns C m_names) (hS : GoodOrc C d S) : SimSs C d ⟨(recAt PySem.Challenge.rw_uf030023_04.prog 23).scope, m_v__law_bad⟩ (recAt PySem.Challenge.rw_uf030023_04.prog 23).body (m__law_bad S) := by
  have hv0 : Sc.has ⟨(recAt PySem.Challenge.rw_uf030023_04.prog 23).scope, m_v__law_bad⟩ (Str.ofString "_law_number") 0 = true := by decide +kernel
  have hv1 : Sc.has ⟨(recAt PySem.Challenge.rw_uf030023_04.prog 23).scope, m_v__law_bad⟩ (Str.ofString "_law_some") 1 = true := by decide +kernel
  refine simSs_cons ?_ ?_
  refine sim_asg ?_ ?_ ?_
  refine sim_lst ?_ ?_ ?_
  refine .cons ?_ ?_
  refine sim_none _ _
  refine .cons ?_ ?_
  refine sim_int _ _ _
  refine .cons ?_ ?_
  refine sim_str _ _ _
  refine .cons ?_ ?_
  refine sim_lst ?_ ?_ ?_
  refine .nil
  rfl
  decide
  refine .cons ?_ ?_
  refine sim_tup ?_ ?_ ?_
  refine .nil
  rfl
  decide
  refine .cons ?_ ?_
  refine sim_tup ?_ ?_ ?_
  refine .cons ?_ ?_
  refine sim_str _ _ _
  refine .nil
  rfl
  decide
  refine .cons ?_ ?_
  refine sim_tup ?_ ?_ ?_
  refine .cons ?_ ?_
  refine sim_str _ _ _
  refine .cons ?_ ?_
  refine sim_neg ?_
  refine sim_int _ _ _
  refine .nil
  rfl
  decide
  refine .cons ?_ ?_
  refine sim_tup ?_ ?_ ?_
  refine .cons ?_ ?_
  refine sim_str _ _ _
  refine .cons ?_ ?_
  refine sim_int _ _ _
  refine .nil
  rfl
  decide
  refine .cons ?_ ?_
  refine sim_tup ?_ ?_ ?_
  refine .cons ?_ ?_
  refine sim_str _ _ _
  refine .cons ?_ ?_
  refine sim_bool _ _ _
  refine .nil
  rfl
  decide
  refine .cons ?_ ?_
  refine sim_tup ?_ ?_ ?_
  refine .cons ?_ ?_
  refine sim_str _ _ _
  refine .cons ?_ ?_
  refine sim_str _ _ _
  refine .nil
  rfl
  decide
  refine .cons ?_ ?_
  refine sim_tup ?_ ?_ ?_
  refine .cons ?_ ?_
  refine sim_str _ _ _
  refine .cons ?_ ?_
  refine sim_none _ _
  refine .nil
  rfl
  decide
  refine .nil
  rfl
  decide
  exact hv1
  rfl
  refine simSs_cons ?_ ?_
  refine sim_asg ?_ ?_ ?_
  refine sim_bin ?_ ?_
  refine sim_nm ?_
  exact hv1
  refine sim_lst ?_ ?_ ?_
  refine .cons ?_ ?_
  refine sim_tup ?_ ?_ ?_
  refine .cons ?_ ?_
  refine sim_str _ _ _
  refine .cons ?_ ?_
  refine sim_int _ _ _
  refine .cons ?_ ?_
  refine sim_int _ _ _
  refine .nil
  rfl
  decide
  refine .cons ?_ ?_
  refine sim_lst ?_ ?_ ?_
  refine .cons ?_ ?_
  refine sim_str _ _ _
  refine .cons ?_ ?_
  refine sim_int _ _ _
  refine .nil
  rfl
  decide
  refine .cons ?_ ?_
  refine sim_tup ?_ ?_ ?_
  refine .cons ?_ ?_
  refine sim_str _ _ _
  refine .cons ?_ ?_
  refine sim_str _ _ _
  refine .nil
  rfl
  decide
  refine .cons ?_ ?_
  refine sim_tup ?_ ?_ ?_
  refine .cons ?_ ?_
  refine sim_str _ _ _
  refine .cons ?_ ?_
  refine sim_str _ _ _
  refine .nil
  rfl
  decide
  refine .cons ?_ ?_
  refine sim_tup ?_ ?_ ?_
  refine .cons ?_ ?_
  refine sim_str _ _ _
  refine .cons ?_ ?_
  refine sim_str _ _ _
  refine .nil
  rfl
  decide
  refine .cons ?_ ?_
  refine sim_tup ?_ ?_ ?_
  refine .cons ?_ ?_
  refine sim_str _ _ _
  refine .cons ?_ ?_
  refine sim_str _ _ _
  refine .nil
  rfl
  decide
  refine .nil
  rfl
  decide
  exact hv1
  rfl
  refine simSs_cons ?_ ?_
  refine sim_asg ?_ ?_ ?_
  refine sim_bin ?_ ?_
  refine sim_nm ?_
  exact hv1
  refine sim_lst ?_ ?_ ?_
  refine .cons ?_ ?_
  refine sim_tup ?_ ?_ ?_
  refine .cons ?_ ?_
  refine sim_str _ _ _
  refine .cons ?_ ?_
  refine sim_int _ _ _
  refine .nil
  rfl
  decide
  refine .cons ?_ ?_
  refine sim_tup ?_ ?_ ?_
  refine .cons ?_ ?_
  refine sim_str _ _ _
  refine .cons ?_ ?_
  refine sim_str _ _ _
  refine .nil
  rfl
  decide
  refine .cons ?_ ?_
  refine sim_tup ?_ ?_ ?_
  refine .cons ?_ ?_
  refine sim_str _ _ _
  refine .nil
  rfl
  decide
  refine .cons ?_ ?_
  refine sim_tup ?_ ?_ ?_
  refine .cons ?_ ?_
  refine sim_str _ _ _
  refine .cons ?_ ?_
  refine sim_tup ?_ ?_ ?_
  refine .cons ?_ ?_
  refine sim_str _ _ _
  refine .cons ?_ ?_
  refine sim_int _ _ _
  refine .nil
  rfl
  decide
  refine .nil
  rfl
  decide
  refine .cons ?_ ?_
  refine sim_tup ?_ ?_ ?_
  refine .cons ?_ ?_
  refine sim_str _ _ _
  refine .cons ?_ ?_
  refine sim_tup ?_ ?_ ?_
  refine .cons ?_ ?_
  refine sim_str _ _ _
  refine .cons ?_ ?_
  refine sim_int _ _ _
  refine .nil
  rfl
  decide
  refine .cons ?_ ?_
  refine sim_tup ?_ ?_ ?_
  refine .cons ?_ ?_
  refine sim_str _ _ _
  refine .cons ?_ ?_
  refine sim_int _ _ _
  refine .nil
  rfl
  decide
  refine .nil
  rfl
  decide
  refine .nil
  rfl
  decide
  exact hv1
  rfl
  refine simSs_cons ?_ ?_
  refine sim_asg ?_ ?_ ?_
  refine sim_bin ?_ ?_
  refine sim_nm ?_
  exact hv1
  refine sim_lst ?_ ?_ ?_
  refine .cons ?_ ?_
  refine sim_tup ?_ ?_ ?_
  refine .cons ?_ ?_
  refine sim_str _ _ _
  refine .cons ?_ ?_
  refine sim_str _ _ _
  refine .cons ?_ ?_
  refine sim_tup ?_ ?_ ?_
  refine .cons ?_ ?_
  refine sim_str _ _ _
  refine .cons ?_ ?_
  refine sim_int _ _ _
  refine .nil
  rfl
  decide
  refine .nil
  rfl
  decide
  refine .cons ?_ ?_
  refine sim_tup ?_ ?_ ?_
  refine .cons ?_ ?_
  refine sim_str _ _ _
  refine .cons ?_ ?_
  refine sim_str _ _ _
  refine .cons ?_ ?_
  refine sim_tup ?_ ?_ ?_
  refine .cons ?_ ?_
  refine sim_str _ _ _
  refine .cons ?_ ?_
  refine sim_int _ _ _
  refine .nil
  rfl
  decide
  refine .cons ?_ ?_
  refine sim_tup ?_ ?_ ?_
  refine .cons ?_ ?_
  refine sim_str _ _ _
  refine .cons ?_ ?_
  refine sim_int _ _ _
  refine .nil
  rfl
  decide
  refine .nil
  rfl
  decide
  refine .cons ?_ ?_
  refine sim_tup ?_ ?_ ?_
  refine .cons ?_ ?_
  refine sim_str _ _ _
  refine .cons ?_ ?_
  refine sim_int _ _ _
  refine .cons ?_ ?_
  refine sim_tup ?_ ?_ ?_
  refine .cons ?_ ?_
  refine sim_str _ _ _
  refine .cons ?_ ?_
  refine sim_int _ _ _
  refine .nil
  rfl
  decide
  refine .cons ?_ ?_
  refine sim_tup ?_ ?_ ?_
  refine .cons ?_ ?_
  refine sim_str _ _ _
  refine .cons ?_ ?_
  refine sim_int _ _ _
  refine .nil
  rfl
  decide
  refine .nil
  rfl
  decide
  refine .nil
  rfl
  decide
  exact hv1
  rfl
  refine simSs_cons ?_ ?_
  refine sim_asg ?_ ?_ ?_
  refine sim_bin ?_ ?_
  refine sim_nm ?_
  exact hv1
  refine sim_lst ?_ ?_ ?_
  refine .cons ?_ ?_
  refine sim_tup ?_ ?_ ?_
  refine .cons ?_ ?_
  refine sim_str _ _ _
  refine .cons ?_ ?_
  refine sim_str _ _ _
  refine .cons ?_ ?_
  refine sim_tup ?_ ?_ ?_
  refine .cons ?_ ?_
  refine sim_str _ _ _
  refine .cons ?_ ?_
  refine sim_int _ _ _
  refine .nil
  rfl
  decide
  refine .cons ?_ ?_
  refine sim_tup ?_ ?_ ?_
  refine .cons ?_ ?_
  refine sim_str _ _ _
  refine .cons ?_ ?_
  refine sim_int _ _ _
  refine .nil
  rfl
  decide
  refine .nil
  rfl
  decide
  refine .cons ?_ ?_
  refine sim_tup ?_ ?_ ?_
  refine .cons ?_ ?_
  refine sim_str _ _ _
  refine .cons ?_ ?_
  refine sim_tup ?_ ?_ ?_
  refine .cons ?_ ?_
  refine sim_str _ _ _
  refine .cons ?_ ?_
  refine sim_int _ _ _
  refine .nil
  rfl
  decide
  refine .cons ?_ ?_
  refine sim_tup ?_ ?_ ?_
  refine .cons ?_ ?_
  refine sim_str _ _ _
  refine .cons ?_ ?_
  refine sim_int _ _ _
  refine .nil
  rfl
  decide
  refine .nil
  rfl
  decide
  refine .cons ?_ ?_
  refine sim_tup ?_ ?_ ?_
  refine .cons ?_ ?_
  refine sim_str _ _ _
  refine .cons ?_ ?_
  refine sim_str _ _ _
  refine .nil
  rfl
  decide
  refine .nil
  rfl
  decide
  exact hv1
  rfl
  refine simSs_cons ?_ ?_
  refine sim_asg ?_ ?_ ?_
  refine sim_bin ?_ ?_
  refine sim_nm ?_
  exact hv1
  refine sim_lst ?_ ?_ ?_
  refine .cons ?_ ?_
  refine sim_tup ?_ ?_ ?_
  refine .cons ?_ ?_
  refine sim_str _ _ _
  refine .cons ?_ ?_
  refine sim_str _ _ _
  refine .cons ?_ ?_
  refine sim_tup ?_ ?_ ?_
  refine .cons ?_ ?_
  refine sim_str _ _ _
  refine .cons ?_ ?_
  refine sim_int _ _ _
  refine .nil
  rfl
  decide
  refine .nil
  rfl
  decide
  refine .cons ?_ ?_
  refine sim_tup ?_ ?_ ?_
  refine .cons ?_ ?_
  refine sim_str _ _ _
  refine .cons ?_ ?_
  refine sim_none _ _
  refine .cons ?_ ?_
  refine sim_tup ?_ ?_ ?_
  refine .cons ?_ ?_
  refine sim_str _ _ _
  refine .cons ?_ ?_
  refine sim_int _ _ _
  refine .nil
  rfl
  decide
  refine .nil
  rfl
  decide
  refine .cons ?_ ?_
  refine sim_tup ?_ ?_ ?_
  refine .cons ?_ ?_
  refine sim_str _ _ _
  refine .cons ?_ ?_
  refine sim_str _ _ _
  refine .cons ?_ ?_
  refine sim_tup ?_ ?_ ?_
  refine .cons ?_ ?_
  refine sim_str _ _ _
  refine .cons ?_ ?_
  refine sim_int _ _ _
  refine .nil
  rfl
  decide
  refine .nil
  rfl
  decide
  refine .cons ?_ ?_
  refine sim_tup ?_ ?_ ?_
  refine .cons ?_ ?_
  refine sim_int _ _ _
  refine .cons ?_ ?_
  refine sim_int _ _ _
  refine .nil
  rfl
  decide
  refine .nil
  rfl
  decide
  exact hv1
  rfl
  refine simSs_cons ?_ ?_
  refine sim_asg ?_ ?_ ?_
  refine sim_bin ?_ ?_
  refine sim_nm ?_
  exact hv1
  refine sim_lst ?_ ?_ ?_
  refine .cons ?_ ?_
  refine sim_tup ?_ ?_ ?_
  refine .cons ?_ ?_
  refine sim_str _ _ _
  refine .cons ?_ ?_
  refine sim_str _ _ _
  refine .cons ?_ ?_
  refine sim_tup ?_ ?_ ?_
  refine .cons ?_ ?_
  refine sim_str _ _ _
  refine .cons ?_ ?_
  refine sim_int _ _ _
  refine .nil
  rfl
  decide
  refine .nil
  rfl
  decide
  refine .cons ?_ ?_
  refine sim_tup ?_ ?_ ?_
  refine .cons ?_ ?_
  refine sim_str _ _ _
  refine .cons ?_ ?_
  refine sim_str _ _ _
  refine .cons ?_ ?_
  refine sim_tup ?_ ?_ ?_
  refine .cons ?_ ?_
  refine sim_str _ _ _
  refine .cons ?_ ?_
  refine sim_int _ _ _
  refine .nil
  rfl
  decide
  refine .cons ?_ ?_
  refine sim_tup ?_ ?_ ?_
  refine .cons ?_ ?_
  refine sim_str _ _ _
  refine .cons ?_ ?_
  refine sim_int _ _ _
  refine .nil
  rfl
  decide
  refine .nil
  rfl
  decide
  refine .cons ?_ ?_
  refine sim_tup ?_ ?_ ?_
  refine .cons ?_ ?_
  refine sim_str _ _ _
  refine .cons ?_ ?_
  refine sim_str _ _ _
  refine .cons ?_ ?_
  refine sim_str _ _ _
  refine .cons ?_ ?_
  refine sim_tup ?_ ?_ ?_
  refine .cons ?_ ?_
  refine sim_str _ _ _
  refine .cons ?_ ?_
  refine sim_int _ _ _
  refine .nil
  rfl
  decide
  refine .nil
  rfl
  decide
  refine .nil
  rfl
  decide
  exact hv1
  rfl
  refine simSs_cons ?_ ?_
  refine sim_asg ?_ ?_ ?_
  refine sim_bin ?_ ?_
  refine sim_nm ?_
  exact hv1
  refine sim_lst ?_ ?_ ?_
  refine .cons ?_ ?_
  refine sim_tup ?_ ?_ ?_
  refine .cons ?_ ?_
  refine sim_str _ _ _
  refine .cons ?_ ?_
  refine sim_str _ _ _
  refine .cons ?_ ?_
  refine sim_str _ _ _
  refine .cons ?_ ?_
  refine sim_tup ?_ ?_ ?_
  refine .cons ?_ ?_
  refine sim_str _ _ _
  refine .cons ?_ ?_
  refine sim_int _ _ _
  refine .nil
  rfl
  decide
  refine .cons ?_ ?_
  refine sim_tup ?_ ?_ ?_
  refine .cons ?_ ?_
  refine sim_str _ _ _
  refine .cons ?_ ?_
  refine sim_int _ _ _
  refine .nil
  rfl
  decide
  refine .nil
  rfl
  decide
  refine .cons ?_ ?_
  refine sim_tup ?_ ?_ ?_
  refine .cons ?_ ?_
  refine sim_str _ _ _
  refine .cons ?_ ?_
  refine sim_str _ _ _
  refine .cons ?_ ?_
  refine sim_str _ _ _
  refine .cons ?_ ?_
  refine sim_tup ?_ ?_ ?_
  refine .cons ?_ ?_
  refine sim_str _ _ _
  refine .cons ?_ ?_
  refine sim_int _ _ _
  refine .nil
  rfl
  decide
  refine .cons ?_ ?_
  refine sim_tup ?_ ?_ ?_
  refine .cons ?_ ?_
  refine sim_str _ _ _
  refine .cons ?_ ?_
  refine sim_int _ _ _
  refine .nil
  rfl
  decide
  refine .nil
  rfl
  decide
  refine .nil
  rfl
  decide
  exact hv1
  rfl
  refine simSs_cons ?_ ?_
  refine sim_asg ?_ ?_ ?_
  refine sim_bin ?_ ?_
  refine sim_nm ?_
  exact hv1
  refine sim_lst ?_ ?_ ?_
  refine .cons ?_ ?_
  refine sim_tup ?_ ?_ ?_
  refine .cons ?_ ?_
  refine sim_str _ _ _
  refine .cons ?_ ?_
  refine sim_str _ _ _
  refine .cons ?_ ?_
  refine sim_int _ _ _
  refine .cons ?_ ?_
  refine sim_tup ?_ ?_ ?_
  refine .cons ?_ ?_
  refine sim_str _ _ _
  refine .cons ?_ ?_
  refine sim_int _ _ _
  refine .nil
  rfl
  decide
  refine .cons ?_ ?_
  refine sim_tup ?_ ?_ ?_
  refine .cons ?_ ?_
  refine sim_str _ _ _
  refine .cons ?_ ?_
  refine sim_int _ _ _
  refine .nil
  rfl
  decide
  refine .nil
  rfl
  decide
  refine .cons ?_ ?_
  refine sim_tup ?_ ?_ ?_
  refine .cons ?_ ?_
  refine sim_str _ _ _
  refine .cons ?_ ?_
  refine sim_int _ _ _
  refine .cons ?_ ?_
  refine sim_str _ _ _
  refine .cons ?_ ?_
  refine sim_tup ?_ ?_ ?_
  refine .cons ?_ ?_
  refine sim_str _ _ _
  refine .cons ?_ ?_
  refine sim_int _ _ _
  refine .nil
  rfl
  decide
  refine .cons ?_ ?_
  refine sim_tup ?_ ?_ ?_
  refine .cons ?_ ?_
  refine sim_str _ _ _
  refine .cons ?_ ?_
  refine sim_int _ _ _
  refine .nil
  rfl
  decide
  refine .nil
  rfl
  decide
  refine .cons ?_ ?_
  refine sim_tup ?_ ?_ ?_
  refine .cons ?_ ?_
  refine sim_none _ _
  refine .cons ?_ ?_
  refine sim_int _ _ _
  refine .nil
  rfl
  decide
  refine .nil
  rfl
  decide
  exact hv1
  rfl
  refine simSs_cons ?_ ?_
  refine sim_asg ?_ ?_ ?_
  refine sim_bin ?_ ?_
  refine sim_nm ?_
  exact hv1
  refine sim_lst ?_ ?_ ?_
  refine .cons ?_ ?_
  refine sim_tup ?_ ?_ ?_
  refine .cons ?_ ?_
  refine sim_str _ _ _
  refine .cons ?_ ?_
  refine sim_tup ?_ ?_ ?_
  refine .cons ?_ ?_
  refine sim_str _ _ _
  refine .cons ?_ ?_
  refine sim_int _ _ _
  refine .nil
  rfl
  decide
  refine .cons ?_ ?_
  refine sim_int _ _ _
  refine .nil
  rfl
  decide
  refine .cons ?_ ?_
  refine sim_tup ?_ ?_ ?_
  refine .cons ?_ ?_
  refine sim_str _ _ _
  refine .cons ?_ ?_
  refine sim_int _ _ _
  refine .cons ?_ ?_
  refine sim_tup ?_ ?_ ?_
  refine .cons ?_ ?_
  refine sim_str _ _ _
  refine .cons ?_ ?_
  refine sim_int _ _ _
  refine .nil
  rfl
  decide
  refine .nil
  rfl
  decide
  refine .cons ?_ ?_
  refine sim_tup ?_ ?_ ?_
  refine .cons ?_ ?_
  refine sim_str _ _ _
  refine .cons ?_ ?_
  refine sim_str _ _ _
  refine .cons ?_ ?_
  refine sim_str _ _ _
  refine .nil
  rfl
  decide
  refine .cons ?_ ?_
  refine sim_tup ?_ ?_ ?_
  refine .cons ?_ ?_
  refine sim_str _ _ _
  refine .cons ?_ ?_
  refine sim_str _ _ _
  refine .cons ?_ ?_
  refine sim_int _ _ _
  refine .cons ?_ ?_
  refine sim_tup ?_ ?_ ?_
  refine .cons ?_ ?_
  refine sim_str _ _ _
  refine .cons ?_ ?_
  refine sim_int _ _ _
  refine .nil
  rfl
  decide
  refine .nil
  rfl
  decide
  refine .nil
  rfl
  decide
  exact hv1
  rfl
  refine simSs_cons ?_ ?_
  refine sim_asg ?_ ?_ ?_
  refine sim_bin ?_ ?_
  refine sim_nm ?_
  exact hv1
  refine sim_lst ?_ ?_ ?_
  refine .cons ?_ ?_
  refine sim_tup ?_ ?_ ?_
  refine .cons ?_ ?_
  refine sim_str _ _ _
  refine .cons ?_ ?_
  refine sim_tup ?_ ?_ ?_
  refine .cons ?_ ?_
  refine sim_str _ _ _
  refine .cons ?_ ?_
  refine sim_int _ _ _
  refine .nil
  rfl
  decide
  refine .cons ?_ ?_
  refine sim_tup ?_ ?_ ?_
  refine .cons ?_ ?_
  refine sim_str _ _ _
  refine .cons ?_ ?_
  refine sim_int _ _ _
  refine .nil
  rfl
  decide
  refine .cons ?_ ?_
  refine sim_none _ _
  refine .nil
  rfl
  decide
  refine .cons ?_ ?_
  refine sim_tup ?_ ?_ ?_
  refine .cons ?_ ?_
  refine sim_str _ _ _
  refine .cons ?_ ?_
  refine sim_str _ _ _
  refine .cons ?_ ?_
  refine sim_str _ _ _
  refine .cons ?_ ?_
  refine sim_tup ?_ ?_ ?_
  refine .cons ?_ ?_
  refine sim_str _ _ _
  refine .cons ?_ ?_
  refine sim_int _ _ _
  refine .nil
  rfl
  decide
  refine .cons ?_ ?_
  refine sim_lst ?_ ?_ ?_
  refine .cons ?_ ?_
  refine sim_tup ?_ ?_ ?_
  refine .cons ?_ ?_
  refine sim_str _ _ _
  refine .cons ?_ ?_
  refine sim_int _ _ _
  refine .nil
  rfl
  decide
  refine .nil
  rfl
  decide
  refine .nil
  rfl
  decide
  refine .nil
  rfl
  decide
  exact hv1
  rfl
  refine simSs_cons ?_ ?_
  refine sim_asg ?_ ?_ ?_
  refine sim_bin ?_ ?_
  refine sim_nm ?_
  exact hv1
  refine sim_lst ?_ ?_ ?_
  refine .cons ?_ ?_
  refine sim_tup ?_ ?_ ?_
  refine .cons ?_ ?_
  refine sim_str _ _ _
  refine .nil
  rfl
  decide
  refine .cons ?_ ?_
  refine sim_tup ?_ ?_ ?_
  refine .cons ?_ ?_
  refine sim_str _ _ _
  refine .cons ?_ ?_
  refine sim_int _ _ _
  refine .nil
  rfl
  decide
  refine .cons ?_ ?_
  refine sim_tup ?_ ?_ ?_
  refine .cons ?_ ?_
  refine sim_str _ _ _
  refine .cons ?_ ?_
  refine sim_tup ?_ ?_ ?_
  refine .cons ?_ ?_
  refine sim_str _ _ _
  refine .nil
  rfl
  decide
  refine .cons ?_ ?_
  refine sim_tup ?_ ?_ ?_
  refine .cons ?_ ?_
  refine sim_str _ _ _
  refine .cons ?_ ?_
  refine sim_int _ _ _
  refine .nil
  rfl
  decide
  refine .nil
  rfl
  decide
  refine .cons ?_ ?_
  refine sim_tup ?_ ?_ ?_
  refine .cons ?_ ?_
  refine sim_str _ _ _
  refine .cons ?_ ?_
  refine sim_none _ _
  refine .nil
  rfl
  decide
  refine .cons ?_ ?_
  refine sim_tup ?_ ?_ ?_
  refine .cons ?_ ?_
  refine sim_tup ?_ ?_ ?_
  refine .cons ?_ ?_
  refine sim_str _ _ _
  refine .cons ?_ ?_
  refine sim_int _ _ _
  refine .nil
  rfl
  decide
  refine .nil
  rfl
  decide
  refine .nil
  rfl
  decide
  exact hv1
  rfl
  refine simSs_cons ?_ ?_
  refine sim_asg ?_ ?_ ?_
  refine sim_bin ?_ ?_
  refine sim_nm ?_
  exact hv1
  refine sim_lst ?_ ?_ ?_
  refine .cons ?_ ?_
  refine sim_tup ?_ ?_ ?_
  refine .cons ?_ ?_
  refine sim_str _ _ _
  refine .cons ?_ ?_
  refine sim_str _ _ _
  refine .cons ?_ ?_
  refine sim_str _ _ _
  refine .cons ?_ ?_
  refine sim_tup ?_ ?_ ?_
  refine .cons ?_ ?_
  refine sim_str _ _ _
  refine .cons ?_ ?_
  refine sim_int _ _ _
  refine .nil
  rfl
  decide
  refine .cons ?_ ?_
  refine sim_tup ?_ ?_ ?_
  refine .cons ?_ ?_
  refine sim_str _ _ _
  refine .cons ?_ ?_
  refine sim_int _ _ _
  refine .nil
  rfl
  decide
  refine .nil
  rfl
  decide
  refine .cons ?_ ?_
  refine sim_tup ?_ ?_ ?_
  refine .cons ?_ ?_
  refine sim_str _ _ _
  refine .cons ?_ ?_
  refine sim_str _ _ _
  refine .cons ?_ ?_
  refine sim_none _ _
  refine .cons ?_ ?_
  refine sim_tup ?_ ?_ ?_
  refine .cons ?_ ?_
  refine sim_str _ _ _
  refine .cons ?_ ?_
  refine sim_int _ _ _
  refine .nil
  rfl
  decide
  refine .cons ?_ ?_
  refine sim_tup ?_ ?_ ?_
  refine .cons ?_ ?_
  refine sim_str _ _ _
  refine .cons ?_ ?_
  refine sim_int _ _ _
  refine .nil
  rfl
  decide
  refine .nil
  rfl
  decide
  refine .nil
  rfl
  decide
  exact hv1
  rfl
  refine simSs_cons ?_ ?_
  refine sim_asg ?_ ?_ ?_
  refine sim_bin ?_ ?_
  refine sim_nm ?_
  exact hv1
  refine sim_lst ?_ ?_ ?_
  refine .cons ?_ ?_
  refine sim_tup ?_ ?_ ?_
  refine .cons ?_ ?_
  refine sim_str _ _ _
  refine .cons ?_ ?_
  refine sim_str _ _ _
  refine .cons ?_ ?_
  refine sim_str _ _ _
  refine .cons ?_ ?_
  refine sim_tup ?_ ?_ ?_
  refine .cons ?_ ?_
  refine sim_str _ _ _
  refine .cons ?_ ?_
  refine sim_int _ _ _
  refine .nil
  rfl
  decide
  refine .cons ?_ ?_
  refine sim_tup ?_ ?_ ?_
  refine .cons ?_ ?_
  refine sim_str _ _ _
  refine .cons ?_ ?_
  refine sim_int _ _ _
  refine .nil
  rfl
  decide
  refine .nil
  rfl
  decide
  refine .cons ?_ ?_
  refine sim_tup ?_ ?_ ?_
  refine .cons ?_ ?_
  refine sim_lst ?_ ?_ ?_
  refine .cons ?_ ?_
  refine sim_str _ _ _
  refine .nil
  rfl
  decide
  refine .cons ?_ ?_
  refine sim_int _ _ _
  refine .nil
  rfl
  decide
  refine .cons ?_ ?_
  refine sim_tup ?_ ?_ ?_
  refine .cons ?_ ?_
  refine sim_dictF hM
  refine .cons ?_ ?_
  refine sim_int _ _ _
  refine .nil
  rfl
  decide
  refine .cons ?_ ?_
  refine sim_tup ?_ ?_ ?_
  refine .cons ?_ ?_
  refine sim_str _ _ _
  refine .cons ?_ ?_
  refine sim_lst ?_ ?_ ?_
  refine .cons ?_ ?_
  refine sim_str _ _ _
  refine .nil
  rfl
  decide
  refine .nil
  rfl
  decide
  refine .nil
  rfl
  decide
  exact hv1
  rfl
  refine simSs_cons ?_ ?_
  refine sim_asg ?_ ?_ ?_
  refine sim_bin ?_ ?_
  refine sim_nm ?_
  exact hv1
  refine sim_lst ?_ ?_ ?_
  refine .cons ?_ ?_
  refine sim_tup ?_ ?_ ?_
  refine .cons ?_ ?_
  refine sim_str _ _ _
  refine .cons ?_ ?_
  refine sim_lst ?_ ?_ ?_
  refine .cons ?_ ?_
  refine sim_str _ _ _
  refine .nil
  rfl
  decide
  refine .cons ?_ ?_
  refine sim_tup ?_ ?_ ?_
  refine .cons ?_ ?_
  refine sim_str _ _ _
  refine .cons ?_ ?_
  refine sim_int _ _ _
  refine .nil
  rfl
  decide
  refine .nil
  rfl
  decide
  refine .cons ?_ ?_
  refine sim_tup ?_ ?_ ?_
  refine .cons ?_ ?_
  refine sim_str _ _ _
  refine .cons ?_ ?_
  refine sim_dictF hM
  refine .cons ?_ ?_
  refine sim_str _ _ _
  refine .cons ?_ ?_
  refine sim_tup ?_ ?_ ?_
  refine .cons ?_ ?_
  refine sim_str _ _ _
  refine .cons ?_ ?_
  refine sim_int _ _ _
  refine .nil
  rfl
  decide
  refine .cons ?_ ?_
  refine sim_tup ?_ ?_ ?_
  refine .cons ?_ ?_
  refine sim_str _ _ _
  refine .cons ?_ ?_
  refine sim_int _ _ _
  refine .nil
  rfl
  decide
  refine .nil
  rfl
  decide
  refine .nil
  rfl
  decide
  exact hv1
  rfl
  refine simSs_cons ?_ ?_
  refine sim_asg ?_ ?_ ?_
  refine sim_bin ?_ ?_
  refine sim_nm ?_
  exact hv1
  refine sim_lst ?_ ?_ ?_
  refine .cons ?_ ?_
  refine sim_tup ?_ ?_ ?_
  refine .cons ?_ ?_
  refine sim_str _ _ _
  refine .cons ?_ ?_
  refine sim_lst ?_ ?_ ?_
  refine .cons ?_ ?_
  refine sim_str _ _ _
  refine .nil
  rfl
  decide
  refine .cons ?_ ?_
  refine sim_tup ?_ ?_ ?_
  refine .cons ?_ ?_
  refine sim_str _ _ _
  refine .cons ?_ ?_
  refine sim_int _ _ _
  refine .nil
  rfl
  decide
  refine .cons ?_ ?_
  refine sim_tup ?_ ?_ ?_
  refine .cons ?_ ?_
  refine sim_str _ _ _
  refine .cons ?_ ?_
  refine sim_int _ _ _
  refine .nil
  rfl
  decide
  refine .nil
  rfl
  decide
  refine .nil
  rfl
  decide
  exact hv1
  rfl
  refine simSs_cons ?_ ?_
  refine sim_ret ?_
  refine sim_idx ?_ ?_
  refine sim_nm ?_
  exact hv1
  refine sim_bin ?_ ?_
  refine sim_nm ?_
  exact hv0
  refine sim_len hC ?_ ?_ ?_
  refine sim_nm ?_
  exact hv1
  decide +kernel
  rfl
  refine simSs_nil

theorem m_f__law_bad {C : Cx} (hC : CxOK C) (hM : Mods C) {aA : Addr} {ca : Nat → Addr} (hE : ExcC C aA ca) (hG : Consts C) (hF : Fns C m_names) (hD : Fun C (Str.ofString "_law_bad") (recAt PySem.Challenge.rw_uf030023_04.prog 23)) : DefFit C ("_law_bad", 1, m__law_bad) :=
  ⟨(recAt PySem.Challenge.rw_uf030023_04.prog 23), m_v__law_bad, [Str.ofString "_law_number"], hD, by decide +kernel, fun pm code doc xs h => by
    obtain ⟨y0, rfl⟩ := len1 h
    kernel_rfl, rfl, fun d S hS => by
      have h := @m_s__law_bad C d S hC hM aA ca hE hG hF hS
      with_reducible exact h⟩

noncomputable def m_v__law_holds : List (Str × Nat) := [(Str.ofString "_law_more", 0), (Str.ofString "_law_first", 1), (Str.ofString "_law_second", 2), (Str.ofString "_law_piece", 3), (Str.ofString "_law_due", 4), (Str.ofString "_law_many", 5), (Str.ofString "_law_levels", 6), (Str.ofString "_law_k", 7), (Str.ofString "_law_number", 8), (Str.ofString "_law_way", 9), (Str.ofString "_law_other", 10), (Str.ofString "_law_name", 11), (Str.ofString "_law_found", 12)]

theorem m_s__law_holds {C : Cx} {d : Nat} {S : Orc} (hC : CxOK C) (hM : Mods C) {aA : Addr} {ca : Nat → Addr} (hE : ExcC C aA ca) (hG : Consts C) (hF : Fns C m_names) (hS : GoodOrc C d S) : SimSs C d ⟨(recAt PySem.Challenge.rw_uf030023_04.prog 24).scope, m_v__law_holds⟩ (recAt PySem.Challenge.rw_uf030023_04.prog 24).body (m__law_holds S) := by
  have hv0 : Sc.has ⟨(recAt PySem.Challenge.rw_uf030023_04.prog 24).scope, m_v__law_holds⟩ (Str.ofString "_law_more") 0 = true := by decide +kernel
  have hv1 : Sc.has ⟨(recAt PySem.Challenge.rw_uf030023_04.prog 24).scope, m_v__law_holds⟩ (Str.ofString "_law_first") 1 = true := by decide +kernel
  have hv2 : Sc.has ⟨(recAt PySem.Challenge.rw_uf030023_04.prog 24).scope, m_v__law_holds⟩ (Str.ofString "_law_second") 2 = true := by decide +kernel
  have hv3 : Sc.has ⟨(recAt PySem.Challenge.rw_uf030023_04.prog 24).scope, m_v__law_holds⟩ (Str.ofString "_law_piece") 3 = true := by decide +kernel
  have hv4 : Sc.has ⟨(recAt PySem.Challenge.rw_uf030023_04.prog 24).scope, m_v__law_holds⟩ (Str.ofString "_law_due") 4 = true := by decide +kernel
  have hv5 : Sc.has ⟨(recAt PySem.Challenge.rw_uf030023_04.prog 24).scope, m_v__law_holds⟩ (Str.ofString "_law_many") 5 = true := by decide +kernel
  have hv6 : Sc.has ⟨(recAt PySem.Challenge.rw_uf030023_04.prog 24).scope, m_v__law_holds⟩ (Str.ofString "_law_levels") 6 = true := by decide +kernel
  have hv7 : Sc.has ⟨(recAt PySem.Challenge.rw_uf030023_04.prog 24).scope, m_v__law_holds⟩ (Str.ofString "_law_k") 7 = true := by decide +kernel
  have hv8 : Sc.has ⟨(recAt PySem.Challenge.rw_uf030023_04.prog 24).scope, m_v__law_holds⟩ (Str.ofString "_law_number") 8 = true := by decide +kernel
  have hv9 : Sc.has ⟨(recAt PySem.Challenge.rw_uf030023_04.prog 24).scope, m_v__law_holds⟩ (Str.ofString "_law_way") 9 = true := by decide +kernel
  have hv10 : Sc.has ⟨(recAt PySem.Challenge.rw_uf030023_04.prog 24).scope, m_v__law_holds⟩ (Str.ofString "_law_other") 10 = true := by decide +kernel
  have hv11 : Sc.has ⟨(recAt PySem.Challenge.rw_uf030023_04.prog 24).scope, m_v__law_holds⟩ (Str.ofString "_law_name") 11 = true := by decide +kernel
  have hv12 : Sc.has ⟨(recAt PySem.Challenge.rw_uf030023_04.prog 24).scope, m_v__law_holds⟩ (Str.ofString "_law_found") 12 = true := by decide +kernel
  refine simSs_cons ?_ ?_
  refine sim_asg ?_ ?_ ?_
  refine sim_callP hC hS (hF _ (by decide +kernel)) ?_ ?_ ?_
  refine .cons ?_ ?_
  refine sim_nm ?_
  exact hv1
  refine .nil
  decide +kernel
  rfl
  exact hv3
  rfl
  refine simSs_cons ?_ ?_
  refine sim_asg ?_ ?_ ?_
  refine sim_str _ _ _
  exact hv4
  rfl
  refine simSs_cons ?_ ?_
  refine sim_if ?_ ?_ ?_
  refine simT_cmp ?_ ?_ ?_
  refine sim_bin ?_ ?_
  refine sim_nm ?_
  exact hv0
  refine sim_int _ _ _
  refine sim_int _ _ _
  rfl
  refine simSs_cons ?_ ?_
  refine sim_asg ?_ ?_ ?_
  refine sim_tup ?_ ?_ ?_
  refine .cons ?_ ?_
  refine sim_str _ _ _
  refine .cons ?_ ?_
  refine sim_bin ?_ ?_
  refine sim_bin ?_ ?_
  refine sim_nm ?_
  exact hv0
  refine sim_int _ _ _
  refine sim_int _ _ _
  refine .nil
  rfl
  decide
  exact hv3
  rfl
  refine simSs_cons ?_ ?_
  refine sim_asg ?_ ?_ ?_
  refine sim_str _ _ _
  exact hv4
  rfl
  refine simSs_nil
  refine simSs_nil
  refine simSs_cons ?_ ?_
  refine sim_asg ?_ ?_ ?_
  refine sim_int _ _ _
  exact hv5
  rfl
  refine simSs_cons ?_ ?_
  refine sim_asg ?_ ?_ ?_
  refine sim_bin ?_ ?_
  refine sim_bin ?_ ?_
  refine sim_nm ?_
  exact hv0
  refine sim_int _ _ _
  refine sim_int _ _ _
  exact hv6
  rfl
  refine simSs_cons ?_ ?_
  refine sim_if ?_ ?_ ?_
  refine simT_cmp ?_ ?_ ?_
  refine sim_bin ?_ ?_
  refine sim_bin ?_ ?_
  refine sim_nm ?_
  exact hv0
  refine sim_int _ _ _
  refine sim_int _ _ _
  refine sim_int _ _ _
  rfl
  refine simSs_cons ?_ ?_
  refine sim_asg ?_ ?_ ?_
  refine sim_idx ?_ ?_
  refine sim_lst ?_ ?_ ?_
  refine .cons ?_ ?_
  refine sim_int _ _ _
  refine .cons ?_ ?_
  refine sim_int _ _ _
  refine .cons ?_ ?_
  refine sim_int _ _ _
  refine .cons ?_ ?_
  refine sim_int _ _ _
  refine .nil
  rfl
  decide
  refine sim_bin ?_ ?_
  refine sim_bin ?_ ?_
  refine sim_nm ?_
  exact hv0
  refine sim_int _ _ _
  refine sim_int _ _ _
  exact hv6
  rfl
  refine simSs_nil
  refine simSs_nil
  refine simSs_cons ?_ ?_
  refine sim_if ?_ ?_ ?_
  refine simT_cmp ?_ ?_ ?_
  refine sim_nm ?_
  exact hv6
  refine sim_int _ _ _
  rfl
  refine simSs_cons ?_ ?_
  refine sim_asg ?_ ?_ ?_
  refine sim_str _ _ _
  exact hv4
  rfl
  refine simSs_nil
  refine simSs_nil
  refine simSs_cons ?_ ?_
  refine sim_for ?_ ?_ ?_ ?_
  refine simI_range hC ?_ ?_ ?_
  refine sim_nm ?_
  exact hv6
  decide +kernel
  rfl
  refine simSs_cons ?_ ?_
  refine sim_asg ?_ ?_ ?_
  refine sim_callP hC hS (hF _ (by decide +kernel)) ?_ ?_ ?_
  refine .cons ?_ ?_
  refine sim_nm ?_
  exact hv2
  refine .cons ?_ ?_
  refine sim_nm ?_
  exact hv7
  refine .nil
  decide +kernel
  rfl
  exact hv8
  rfl
  refine simSs_cons ?_ ?_
  refine sim_asg ?_ ?_ ?_
  refine sim_bin ?_ ?_
  refine sim_nm ?_
  exact hv8
  refine sim_int _ _ _
  exact hv9
  rfl
  refine simSs_cons ?_ ?_
  refine sim_asg ?_ ?_ ?_
  refine sim_tup ?_ ?_ ?_
  refine .cons ?_ ?_
  refine sim_str _ _ _
  refine .cons ?_ ?_
  refine sim_nm ?_
  exact hv7
  refine .nil
  rfl
  decide
  exact hv10
  rfl
  refine simSs_cons ?_ ?_
  refine sim_if ?_ ?_ ?_
  refine simT_cmp ?_ ?_ ?_
  refine sim_bin ?_ ?_
  refine sim_bin ?_ ?_
  refine sim_nm ?_
  exact hv8
  refine sim_int _ _ _
  refine sim_bin ?_ ?_
  refine sim_int _ _ _
  refine sim_bin ?_ ?_
  refine sim_int _ _ _
  refine sim_intB hC ?_ ?_ ?_
  refine sim_cmp ?_ ?_ ?_
  refine sim_nm ?_
  exact hv6
  refine sim_int _ _ _
  rfl
  decide +kernel
  rfl
  refine sim_int _ _ _
  rfl
  refine simSs_cons ?_ ?_
  refine sim_asg ?_ ?_ ?_
  refine sim_tup ?_ ?_ ?_
  refine .cons ?_ ?_
  refine sim_str _ _ _
  refine .cons ?_ ?_
  refine sim_str _ _ _
  refine .nil
  rfl
  decide
  exact hv10
  rfl
  refine simSs_cons ?_ ?_
  refine sim_if ?_ ?_ ?_
  refine simT_and ?_
  refine .cons ?_ ?_
  refine simT_cmp ?_ ?_ ?_
  refine sim_bin ?_ ?_
  refine sim_nm ?_
  exact hv6
  refine sim_nm ?_
  exact hv7
  refine sim_int _ _ _
  rfl
  refine .cons ?_ ?_
  refine simT_or ?_
  refine .cons ?_ ?_
  refine simT_inI ?_ ?_ ?_
  refine sim_nm ?_
  exact hv9
  refine sim_lst ?_ ?_ ?_
  refine .cons ?_ ?_
  refine sim_int _ _ _
  refine .cons ?_ ?_
  refine sim_int _ _ _
  refine .cons ?_ ?_
  refine sim_int _ _ _
  refine .cons ?_ ?_
  refine sim_int _ _ _
  refine .cons ?_ ?_
  refine sim_int _ _ _
  refine .nil
  rfl
  decide
  rfl
  refine .cons ?_ ?_
  refine simT_and ?_
  refine .cons ?_ ?_
  refine simT_cmp ?_ ?_ ?_
  refine sim_nm ?_
  exact hv4
  refine sim_str _ _ _
  rfl
  refine .cons ?_ ?_
  refine simT_cmp ?_ ?_ ?_
  refine sim_nm ?_
  exact hv9
  refine sim_int _ _ _
  rfl
  refine .nil
  refine .nil
  refine .nil
  refine simSs_cons ?_ ?_
  refine sim_asg ?_ ?_ ?_
  refine sim_str _ _ _
  exact hv4
  rfl
  refine simSs_nil
  refine simSs_nil
  refine simSs_nil
  refine simSs_nil
  refine simSs_cons ?_ ?_
  refine sim_asg ?_ ?_ ?_
  refine sim_idx ?_ ?_
  refine sim_lst ?_ ?_ ?_
  refine .cons ?_ ?_
  refine sim_str _ _ _
  refine .cons ?_ ?_
  refine sim_str _ _ _
  refine .cons ?_ ?_
  refine sim_str _ _ _
  refine .cons ?_ ?_
  refine sim_str _ _ _
  refine .cons ?_ ?_
  refine sim_str _ _ _
  refine .cons ?_ ?_
  refine sim_str _ _ _
  refine .cons ?_ ?_
  refine sim_str _ _ _
  refine .nil
  rfl
  decide
  refine sim_bin ?_ ?_
  refine sim_bin ?_ ?_
  refine sim_nm ?_
  exact hv8
  refine sim_int _ _ _
  refine sim_int _ _ _
  exact hv11
  rfl
  refine simSs_cons ?_ ?_
  refine sim_asg ?_ ?_ ?_
  refine sim_callP hC hS (hF _ (by decide +kernel)) ?_ ?_ ?_
  refine .cons ?_ ?_
  refine sim_nm ?_
  exact hv9
  refine .cons ?_ ?_
  refine sim_nm ?_
  exact hv11
  refine .cons ?_ ?_
  refine sim_idx ?_ ?_
  refine sim_lst ?_ ?_ ?_
  refine .cons ?_ ?_
  refine sim_str _ _ _
  refine .cons ?_ ?_
  refine sim_str _ _ _
  refine .cons ?_ ?_
  refine sim_str _ _ _
  refine .nil
  rfl
  decide
  refine sim_bin ?_ ?_
  refine sim_nm ?_
  exact hv7
  refine sim_int _ _ _
  refine .cons ?_ ?_
  refine sim_nm ?_
  exact hv3
  refine .cons ?_ ?_
  refine sim_nm ?_
  exact hv10
  refine .nil
  decide +kernel
  rfl
  exact hv3
  rfl
  refine simSs_cons ?_ ?_
  refine sim_asg ?_ ?_ ?_
  refine sim_bin ?_ ?_
  refine sim_nm ?_
  exact hv5
  refine sim_idx ?_ ?_
  refine sim_lst ?_ ?_ ?_
  refine .cons ?_ ?_
  refine sim_int _ _ _
  refine .cons ?_ ?_
  refine sim_int _ _ _
  refine .cons ?_ ?_
  refine sim_int _ _ _
  refine .cons ?_ ?_
  refine sim_int _ _ _
  refine .cons ?_ ?_
  refine sim_int _ _ _
  refine .cons ?_ ?_
  refine sim_int _ _ _
  refine .cons ?_ ?_
  refine sim_int _ _ _
  refine .cons ?_ ?_
  refine sim_int _ _ _
  refine .cons ?_ ?_
  refine sim_int _ _ _
  refine .cons ?_ ?_
  refine sim_int _ _ _
  refine .nil
  rfl
  decide
  refine sim_nm ?_
  exact hv9
  exact hv5
  rfl
  refine simSs_nil
  exact hv7
  rfl
  refine simSs_cons ?_ ?_
  refine sim_if ?_ ?_ ?_
  refine simT_cmp ?_ ?_ ?_
  refine sim_nm ?_
  exact hv4
  refine sim_str _ _ _
  rfl
  refine simSs_cons ?_ ?_
  refine sim_ret ?_
  refine sim_cmp ?_ ?_ ?_
  refine sim_callP hC hS (hF _ (by decide +kernel)) ?_ ?_ ?_
  refine .cons ?_ ?_
  refine sim_nm ?_
  exact hv3
  refine .nil
  decide +kernel
  rfl
  refine sim_nm ?_
  exact hv4
  rfl
  refine simSs_nil
  refine simSs_nil
  refine simSs_cons ?_ ?_
  refine sim_asg ?_ ?_ ?_
  refine sim_callP hC hS (hF _ (by decide +kernel)) ?_ ?_ ?_
  refine .cons ?_ ?_
  refine sim_nm ?_
  exact hv3
  refine .nil
  decide +kernel
  rfl
  exact hv12
  rfl
  refine simSs_cons ?_ ?_
  refine sim_ret ?_
  refine sim_and ?_
  refine .cons ?_ ?_
  refine sim_callP hC hS (hF _ (by decide +kernel)) ?_ ?_ ?_
  refine .cons ?_ ?_
  refine sim_nm ?_
  exact hv12
  refine .nil
  decide +kernel
  rfl
  refine .cons ?_ ?_
  refine sim_cmp ?_ ?_ ?_
  refine sim_nm ?_
  exact hv12
  refine sim_nm ?_
  exact hv5
  rfl
  refine .nil
  refine simSs_nil

theorem m_f__law_holds {C : Cx} (hC : CxOK C) (hM : Mods C) {aA : Addr} {ca : Nat → Addr} (hE : ExcC C aA ca) (hG : Consts C) (hF : Fns C m_names) (hD : Fun C (Str.ofString "_law_holds") (recAt PySem.Challenge.rw_uf030023_04.prog 24)) : DefFit C ("_law_holds", 3, m__law_holds) :=
  ⟨(recAt PySem.Challenge.rw_uf030023_04.prog 24), m_v__law_holds, [Str.ofString "_law_more", Str.ofString "_law_first", Str.ofString "_law_second"], hD, by decide +kernel, fun pm code doc xs h => by
    obtain ⟨y0, y1, y2, rfl⟩ := len3 h
    kernel_rfl, rfl, fun d S hS => m_s__law_holds hC hM hE hG hF hS⟩

noncomputable def m_v_law : List (Str × Nat) := [(Str.ofString "_law_script", 0), (Str.ofString "_law_turn", 1), (Str.ofString "_law_more", 2), (Str.ofString "_law_first", 3)]

theorem m_s_law {C : Cx} {d : Nat} {S : Orc} (hC : CxOK C) (hM : Mods C) {aA : Addr} {ca : Nat → Addr} (hE : ExcC C aA ca) (hG : Consts C) (hF : Fns C m_names) (hS : GoodOrc C d S) : SimSs C d ⟨(recAt PySem.Challenge.rw_uf030023_04.prog 25).scope, m_v_law⟩ (recAt PySem.Challenge.rw_uf030023_04.prog 25).body (m_law S) := by
  have hv0 : Sc.has ⟨(recAt PySem.Challenge.rw_uf030023_04.prog 25).scope, m_v_law⟩ (Str.ofString "_law_script") 0 = true := by decide +kernel
  have hv1 : Sc.has ⟨(recAt PySem.Challenge.rw_uf030023_04.prog 25).scope, m_v_law⟩ (Str.ofString "_law_turn") 1 = true := by decide +kernel
  have hv2 : Sc.has ⟨(recAt PySem.Challenge.rw_uf030023_04.prog 25).scope, m_v_law⟩ (Str.ofString "_law_more") 2 = true := by decide +kernel
  have hv3 : Sc.has ⟨(recAt PySem.Challenge.rw_uf030023_04.prog 25).scope, m_v_law⟩ (Str.ofString "_law_first") 3 = true := by decide +kernel
  refine simSs_cons ?_ ?_
  refine sim_for ?_ ?_ ?_ ?_
  refine simI_range hC ?_ ?_ ?_
  refine sim_int _ _ _
  decide +kernel
  rfl
  refine simSs_cons ?_ ?_
  refine sim_asg ?_ ?_ ?_
  refine sim_bin ?_ ?_
  refine sim_callP hC hS (hF _ (by decide +kernel)) ?_ ?_ ?_
  refine .cons ?_ ?_
  refine sim_callP hC hS (hF _ (by decide +kernel)) ?_ ?_ ?_
  refine .cons ?_ ?_
  refine sim_nm ?_
  exact hv0
  refine .cons ?_ ?_
  refine sim_int _ _ _
  refine .nil
  decide +kernel
  rfl
  refine .cons ?_ ?_
  refine sim_bin ?_ ?_
  refine sim_int _ _ _
  refine sim_nm ?_
  exact hv1
  refine .nil
  decide +kernel
  rfl
  refine sim_int _ _ _
  exact hv2
  rfl
  refine simSs_cons ?_ ?_
  refine sim_asg ?_ ?_ ?_
  refine sim_callP hC hS (hF _ (by decide +kernel)) ?_ ?_ ?_
  refine .cons ?_ ?_
  refine sim_callP hC hS (hF _ (by decide +kernel)) ?_ ?_ ?_
  refine .cons ?_ ?_
  refine sim_nm ?_
  exact hv0
  refine .cons ?_ ?_
  refine sim_int _ _ _
  refine .nil
  decide +kernel
  rfl
  refine .cons ?_ ?_
  refine sim_bin ?_ ?_
  refine sim_int _ _ _
  refine sim_nm ?_
  exact hv1
  refine .nil
  decide +kernel
  rfl
  exact hv3
  rfl
  refine simSs_cons ?_ ?_
  refine sim_if ?_ ?_ ?_
  refine simT_not ?_
  refine simT_val ?_ ?_
  refine sim_callP hC hS (hF _ (by decide +kernel)) ?_ ?_ ?_
  refine .cons ?_ ?_
  refine sim_nm ?_
  exact hv2
  refine .cons ?_ ?_
  refine sim_nm ?_
  exact hv3
  refine .cons ?_ ?_
  refine sim_bin ?_ ?_
  refine sim_callP hC hS (hF _ (by decide +kernel)) ?_ ?_ ?_
  refine .cons ?_ ?_
  refine sim_nm ?_
  exact hv0
  refine .cons ?_ ?_
  refine sim_int _ _ _
  refine .nil
  decide +kernel
  rfl
  refine sim_bin ?_ ?_
  refine sim_int _ _ _
  refine sim_nm ?_
  exact hv1
  refine .nil
  decide +kernel
  rfl
  trivial
  refine simSs_cons ?_ ?_
  refine sim_ret ?_
  refine sim_bool _ _ _
  refine simSs_nil
  refine simSs_nil
  refine simSs_nil
  exact hv1
  rfl
  refine simSs_cons ?_ ?_
  refine sim_ret ?_
  refine sim_bool _ _ _
  refine simSs_nil

theorem m_f_law {C : Cx} (hC : CxOK C) (hM : Mods C) {aA : Addr} {ca : Nat → Addr} (hE : ExcC C aA ca) (hG : Consts C) (hF : Fns C m_names) (hD : Fun C (Str.ofString "law") (recAt PySem.Challenge.rw_uf030023_04.prog 25)) : DefFit C ("law", 1, m_law) :=
  ⟨(recAt PySem.Challenge.rw_uf030023_04.prog 25), m_v_law, [Str.ofString "_law_script"], hD, by decide +kernel, fun pm code doc xs h => by
    obtain ⟨y0, rfl⟩ := len1 h
    kernel_rfl, rfl, fun d S hS => m_s_law hC hM hE hG hF hS⟩

theorem m_good {C : Cx} (hC : CxOK C) (hM : Mods C) {aA : Addr} {ca : Nat → Addr} (hE : ExcC C aA ca) (hG : Consts C) (d0 : HasDef C (recAt PySem.Challenge.rw_uf030023_04.prog 10)) (d1 : HasDef C (recAt PySem.Challenge.rw_uf030023_04.prog 11)) (d2 : HasDef C (recAt PySem.Challenge.rw_uf030023_04.prog 12)) (d3 : HasDef C (recAt PySem.Challenge.rw_uf030023_04.prog 13)) (d4 : HasDef C (recAt PySem.Challenge.rw_uf030023_04.prog 14)) (d5 : HasDef C (recAt PySem.Challenge.rw_uf030023_04.prog 15)) (d6 : HasDef C (recAt PySem.Challenge.rw_uf030023_04.prog 16)) (d7 : HasDef C (recAt PySem.Challenge.rw_uf030023_04.prog 18)) (d8 : HasDef C (recAt PySem.Challenge.rw_uf030023_04.prog 19)) (d9 : HasDef C (recAt PySem.Challenge.rw_uf030023_04.prog 20)) (d10 : HasDef C (recAt PySem.Challenge.rw_uf030023_04.prog 21)) (d11 : HasDef C (recAt PySem.Challenge.rw_uf030023_04.prog 22)) (d12 : HasDef C (recAt PySem.Challenge.rw_uf030023_04.prog 23)) (d13 : HasDef C (recAt PySem.Challenge.rw_uf030023_04.prog 24)) (d14 : HasDef C (recAt PySem.Challenge.rw_uf030023_04.prog 25)) : ∀ d, GoodOrc C d (Spec (tblOf m_l) d) := by
  have hF : Fns C m_names := AllL.all (.cons (fn_of d0) (.cons (fn_of d1) (.cons (fn_of d2) (.cons (fn_of d3) (.cons (fn_of d4) (.cons (fn_of d5) (.cons (fn_of d6) (.cons (fn_of d7) (.cons (fn_of d8) (.cons (fn_of d9) (.cons (fn_of d10) (.cons (fn_of d11) (.cons (fn_of d12) (.cons (fn_of d13) (.cons (fn_of d14) (.nil))))))))))))))))
  exact good_tbl hC (AllL.all (.cons (m_f_is_number hC hM hE hG hF (d0.fn (by kernel_rfl))) (.cons (m_f_is_name hC hM hE hG hF (d1.fn (by kernel_rfl))) (.cons (m_f_is_kind hC hM hE hG hF (d2.fn (by kernel_rfl))) (.cons (m_f_is_formed hC hM hE hG hF (d3.fn (by kernel_rfl))) (.cons (m_f_inner_of hC hM hE hG hF (d4.fn (by kernel_rfl))) (.cons (m_f_counted hC hM hE hG hF (d5.fn (by kernel_rfl))) (.cons (m_f_checked hC hM hE hG hF (d6.fn (by kernel_rfl))) (.cons (m_f__law_cell_at hC hM hE hG hF (d7.fn (by kernel_rfl))) (.cons (m_f__law_mixed hC hM hE hG hF (d8.fn (by kernel_rfl))) (.cons (m_f__law_whole hC hM hE hG hF (d9.fn (by kernel_rfl))) (.cons (m_f__law_refusal hC hM hE hG hF (d10.fn (by kernel_rfl))) (.cons (m_f__law_level hC hM hE hG hF (d11.fn (by kernel_rfl))) (.cons (m_f__law_bad hC hM hE hG hF (d12.fn (by kernel_rfl))) (.cons (m_f__law_holds hC hM hE hG hF (d13.fn (by kernel_rfl))) (.cons (m_f_law hC hM hE hG hF (d14.fn (by kernel_rfl))) (.nil)))))))))))))))))

end Mine
namespace Mine
open PySem PyProof.Rows PySem.SeqAt PySem.Calls
local macro_rules | `(tactic| walk_at "ev1") => `(tactic| first
  | ((with_reducible apply ex_); assumption)
  | ((with_reducible apply ex0_); rfl)
  | with_reducible apply exS_
  | ((with_reducible refine And.intro ?_ ?_); (first | exact Nat.le_of_ble_eq_true rfl | decide | omega)))
local macro_rules | `(tactic| walk_at "ev") => `(tactic| ((conv => whnf); repeat (walk_at "ev1"; (conv => whnf))))
local macro_rules | `(tactic| walk_at "evl") => `(tactic| (walk_at "ev"; repeat ((first | ((with_reducible refine brsF_ ?_ ?_); decide +kernel) | ((with_reducible refine brsT_ ?_ ?_); decide +kernel)); walk_at "ev")))

/-! pieces -/
theorem ret_whole {tbl : Tbl} (h : tbl "_law_whole" = some (1, m__law_whole)) (n : Int) (d : Nat) : Ret tbl (d + 1) "_law_whole" [.int n] (.bool true) := by
  refine .of h rfl fun H Q X hq => ?_
  walk_at "evl"
  exact hq

theorem pick_at {xs : List V} {k : Nat} {x : V} (h : xs[k]? = some x) (hl : xs.length ≤ 1000000) : pick xs (k : Int) = some x := by
  have hk := (List.getElem?_eq_some_iff.mp h).1
  unfold pick
  rw [if_pos (by (first | lia | omega)), if_pos (by (first | lia | omega))]
  simpa using h

theorem item_tup {xs : List V} {k : Nat} {x : V} {H : Hp} (h : xs[k]? = some x) (hl : xs.length ≤ 1000000) : item (.tup xs) (.int (k : Int)) H = some x := by
  exact pick_at h hl
theorem item_lst {xs : List V} {k : Nat} {x : V} {H : Hp} (h : xs[k]? = some x) (hl : xs.length ≤ 1000000) : item (.lst xs) (.int (k : Int)) H = some x := by
  exact pick_at h hl

/-! a list at the end of the heap -/


/-! slices -/
/-! words of small letters -/
noncomputable def Low (l : List Nat) : Prop := ∀ c ∈ l, 97 ≤ c ∧ c ≤ 122
structure NameOK (w : Str) : Prop where
  pos : 1 ≤ w.cps.size
  len : w.cps.size ≤ 8
  low : Low w.cps.toList
noncomputable def letters : Str := Str.ofString "abcdefghijklmnopqrstuvwxyz"
theorem letters_cps : letters.cps = ((List.range 26).map (97 + ·)).toArray := by decide +kernel
/-- called so, it gives a value of that kind -/
noncomputable def RetP (tbl : Tbl) (d : Nat) (f : String) (vs : List V) (P : V → Prop) : Prop := ∀ (H : Hp) (Q : V → Hp → Prop) (X : XP), (∀ v K, P v → Q v (H ++ K)) → Spec tbl d f vs H Q X
section
variable {tbl : Tbl} {d : Nat} {f : String} {vs : List V} {v : V} {H : Hp} {X : XP} {P : V → Prop}
theorem RetP.use {Z : V → Prop} (h : RetP tbl d f vs P) (hv : ∀ v, P v → v.bel 0 = true) (hq : ∀ v, P v → Z v) : Spec tbl d f vs H (fun v H2 => v.bel H.length = true ∧ (∃ K, H2 = H ++ K) ∧ Z v) X :=
  h H _ X fun v K hp => ⟨V.bel_mono (hv v hp), ⟨K, rfl⟩, hq v hp⟩
theorem RetP.intro {n : Nat} {b : Orc → ST} (hb : tbl f = some (n, b)) (hn : vs.length = n) (h : ∀ (H : Hp) (Q : V → Hp → Prop) (X : XP), (∀ v K, P v → Q v (H ++ K)) → b (Spec tbl d) (fun i => vs[i]?) H (fun fl _ H' => Q (retV fl) H') X) : RetP tbl (d + 1) f vs P := by
  intro H Q X hq
  rw [Spec_succ]
  rw [hb]
  exact ⟨hn, h H Q X hq⟩
theorem RetP.of {n : Nat} {b : Orc → ST} (hb : tbl f = some (n, b)) (hn : vs.length = n) (h : ∀ (H : Hp) (Q : V → Hp → Prop) (X : XP), (∀ v, P v → Q v H) → b (Spec tbl d) (fun i => vs[i]?) H (fun fl _ H' => Q (retV fl) H') X) : RetP tbl (d + 1) f vs P :=
  .intro hb hn fun H Q X hq => h H Q X fun v hv => by simpa using hq v [] hv
end

/-! the builders of the laws -/
theorem belL_str : ∀ (w : List Str), belL 0 (w.map .str) = true
  | [] => rfl
  | _ :: r => by simp [belL, V.bel, belL_str r]
noncomputable def kinds : List Str := [Str.ofString "line", Str.ofString "coin", Str.ofString "fail"]
noncomputable def cellAt (ns : List Int) (k : Nat) : Int := ns[k]?.getD 0
noncomputable def encI (ns : List Int) : V := .lst (ns.map .int)
theorem ret_cell_at {tbl : Tbl} (h : tbl "_law_cell_at" = some (2, m__law_cell_at)) {ns : List Int} (hn : ns.length ≤ 1000) (k : Nat) (d : Nat) : Ret tbl (d + 1) "_law_cell_at" [encI ns, .int k] (.int (cellAt ns k)) := by
  refine .of h rfl fun H Q X hq => ?_
  have hl : (ns.map V.int).length = ns.length := by simp
  walk_at "ev"
  refine brs_ (fun e => ?_) fun e => ?_
  · have hk : k < ns.length := by have := of_decide_eq_true e; (first | lia | omega)
    walk_at "ev"
    refine ex_ (item_lst (x := .int ns[k]) (by simp [hk]) (by simp; (first | lia | omega))) ?_
    walk_at "ev"
    rw [cellAt, List.getElem?_eq_getElem hk] at hq; exact hq
  · have hk : ¬ k < ns.length := by have := of_decide_eq_false e; (first | lia | omega)
    walk_at "ev"
    rw [cellAt, List.getElem?_eq_none (by (first | lia | omega))] at hq; exact hq

theorem ret_mixed {tbl : Tbl} (h : tbl "_law_mixed" = some (2, m__law_mixed)) (c k : Int) (d : Nat) : RetP tbl (d + 1) "_law_mixed" [.int c, .int k] fun v => ∃ m, 0 ≤ m ∧ v = .int m := by
  refine .of h rfl fun H Q X hq => ?_
  walk_at "ev"
  exact hq _ ⟨_, by (first | lia | omega), rfl⟩

/-! the stack -/

local macro_rules | `(tactic| walk_at "evr") => `(tactic| (walk_at "ev"; repeat ((first | ((with_reducible refine brsF_ ?_ ?_); (first | decide +kernel | exact rfl)) | ((with_reducible refine brsT_ ?_ ?_); (first | decide +kernel | exact rfl))); walk_at "ev")))
/-! counted -/
abbrev Res := Nat ⊕ Nat
noncomputable def plus : Res → Res → Res
  | .inl a, .inl b => .inl (a + b)
  | .inl _, .inr c => .inr c
  | .inr c, _ => .inr c
/-- called so, it gives a number or raises -/
noncomputable def RetX (tbl : Tbl) (d : Nat) (f : String) (vs : List V) (r : Res) : Prop := ∀ (H : Hp) (Q : V → Hp → Prop) (X : XP), (∀ n : Nat, r = .inl n → Q (.int n) H) → (∀ c, r = .inr c → X c H) → Spec tbl d f vs H Q X
section
variable {tbl : Tbl} {d : Nat} {f : String} {vs : List V} {r : Res}
theorem RetX.use {H : Hp} {X : XP} {Z : V → Hp → Prop} (h : RetX tbl d f vs r) (hq : ∀ n : Nat, r = .inl n → Z (.int n) H) (hx : ∀ c, r = .inr c → X c H) : Spec tbl d f vs H (cpB Z H) X :=
  h H _ X (fun n e => ⟨rfl, ⟨[], (List.append_nil H).symm⟩, hq n e⟩) hx
theorem RetX.of {n : Nat} {b : Orc → ST} (hb : tbl f = some (n, b)) (hn : vs.length = n) (h : ∀ (H : Hp) (Q : V → Hp → Prop) (X : XP), (∀ n : Nat, r = .inl n → Q (.int n) H) → (∀ c, r = .inr c → X c H) → b (Spec tbl d) (fun i => vs[i]?) H (fun fl _ H' => Q (retV fl) H') X) : RetX tbl (d + 1) f vs r := by
  intro H Q X hq hx
  rw [Spec_succ, hb]
  exact ⟨hn, h H Q X hq hx⟩
theorem for2N_ {i j : Nat} {body : ST} {ρ : Rho} {H : Hp} {U : Fl → Rho → Hp → Prop} {X : XP} (h : U .next ρ H) : for2L i j body [] ρ H U X := for2L_nil ▸ h
theorem for2C_ {i j : Nat} {body : ST} {ρ : Rho} {H : Hp} {U : Fl → Rho → Hp → Prop} {X : XP} {a b : V} {vs : List V} (h : body (upd (upd ρ i a) j b) H (lpK (for2L i j body vs) U X) X) : for2L i j body (.tup [a, b] :: vs) ρ H U X := for2L_cons ▸ h
end
structure Chk (tbl : Tbl) : Prop where
  is_number : tbl "is_number" = some (1, m_is_number)
  is_name : tbl "is_name" = some (1, m_is_name)
  is_kind : tbl "is_kind" = some (1, m_is_kind)
  is_formed : tbl "is_formed" = some (1, m_is_formed)
  inner_of : tbl "inner_of" = some (2, m_inner_of)
  counted : tbl "counted" = some (3, m_counted)
  checked : tbl "checked" = some (1, m_checked)
  refusal : tbl "_law_refusal" = some (1, m__law_refusal)
noncomputable def kn (K : List Str) : V := .tup (K.map .str)
theorem kn_bel (K : List Str) : (kn K).bel 0 = true := by rw [kn, V.bel]; exact belL_str K
section
variable {tbl : Tbl} (T : Chk tbl) {d : Nat}
include T
theorem ret_is_number {n : Int} (h0 : 0 ≤ n) (h1 : n ≤ 999) : Ret tbl (d + 1) "is_number" [.int n] (.bool true) := by
  refine .of T.is_number rfl fun H Q X hq => ?_
  walk_at "evl"
  refine brsT_ (decide_eq_true h0) ?_
  walk_at "ev"
  show Q (.bool (decide (n ≤ 999))) H
  rw [decide_eq_true h1]; exact hq
theorem ret_is_kind {k : Str} (hk : k ∈ kinds) : Ret tbl (d + 1) "is_kind" [.str k] (.bool true) := by
  refine .of T.is_kind rfl fun H Q X hq => ?_
  walk_at "evl"
  have : [Str.ofString "coin", Str.ofString "fail", Str.ofString "line"].contains k = true := by
    simp only [kinds, List.mem_cons, List.not_mem_nil, or_false] at hk
    rcases hk with rfl | rfl | rfl <;> decide
  show Q (.bool ([Str.ofString "coin", Str.ofString "fail", Str.ofString "line"].contains k)) H
  rw [this]; exact hq
end
theorem abc_has {c : Nat} (h : 97 ≤ c ∧ c ≤ 122) : decide (c ∈ abc.cps.toList) = true := by
  have e : abc.cps = ((List.range 26).map (97 + ·)).toArray := letters_cps
  rw [e]
  refine decide_eq_true ?_
  simp only [List.mem_map, List.mem_range]
  exact ⟨c - 97, by omega, by omega⟩
theorem name_signs {S : Orc} {H : Hp} {U : Fl → Rho → Hp → Prop} {X : XP} : ∀ (l : List Nat) (ρ : Rho), Low l → (∀ ρ', U .next ρ' H) → forL 1 (m_is_name_b1 S) (l.map fun c => .str ⟨#[c]⟩) ρ H U X
  | [], ρ, _, hU => forN_ (hU ρ)
  | c :: l, ρ, hl, hU => by
    refine forC_ ?_
    walk_at "ev"
    refine brsF_ (by show (!decide (c ∈ abc.cps.toList)) = false; rw [abc_has (hl c List.mem_cons_self)]; rfl) ?_
    walk_at "ev"
    exact name_signs l _ (fun x hx => hl x (List.mem_cons_of_mem _ hx)) hU
section
variable {tbl : Tbl} (T : Chk tbl) {d : Nat}
include T
theorem ret_is_name {x : Str} (hx : NameOK x) : Ret tbl (d + 1) "is_name" [.str x] (.bool true) := by
  refine .of T.is_name rfl fun H Q X hq => ?_
  have h1 : 1 ≤ x.length := hx.pos
  have h8 : x.length ≤ 8 := hx.len
  walk_at "evl"
  refine brsT_ (decide_eq_true (by omega)) ?_
  walk_at "ev"
  refine brsF_ (by show (!decide ((x.length : Int) ≤ 8)) = false; rw [decide_eq_true (show (x.length : Int) ≤ 8 by omega)]; rfl) ?_
  refine brsF_ rfl ?_
  walk_at "ev"
  refine name_signs _ _ hx.low fun ρ' => ?_
  walk_at "ev"
  exact hq
end

section
variable {tbl : Tbl} (T : Chk tbl) {d : Nat} {l : Int} {K : List Str}
include T
theorem formed_num {n : Int} (h0 : 0 ≤ n) (h1 : n ≤ 999) : Ret tbl (d + 2) "is_formed" [.tup [.str (Str.ofString "num"), .int n]] (.bool true) := by
  refine .of T.is_formed rfl fun H Q X hq => ?_
  walk_at "evr"
  exact (ret_is_number T h0 h1).use rfl hq
theorem formed_name {x : Str} (hx : NameOK x) : Ret tbl (d + 2) "is_formed" [.tup [.str (Str.ofString "name"), .str x]] (.bool true) := by
  refine .of T.is_formed rfl fun H Q X hq => ?_
  walk_at "evr"
  exact (ret_is_name T hx).use rfl hq
theorem formed_sum {a b : V} : Ret tbl (d + 2) "is_formed" [.tup [.str (Str.ofString "sum"), a, b]] (.bool true) := by
  refine .of T.is_formed rfl fun H Q X hq => ?_
  walk_at "evr"
  exact hq
theorem formed_let {x : Str} (hx : NameOK x) {a b : V} : Ret tbl (d + 2) "is_formed" [.tup [.str (Str.ofString "let"), .str x, a, b]] (.bool true) := by
  refine .of T.is_formed rfl fun H Q X hq => ?_
  walk_at "evr"
  exact (ret_is_name T hx).use rfl hq
theorem formed_choose {a b c : V} : Ret tbl (d + 2) "is_formed" [.tup [.str (Str.ofString "choose"), a, b, c]] (.bool true) := by
  refine .of T.is_formed rfl fun H Q X hq => ?_
  walk_at "evr"
  exact hq
theorem formed_ask {k : Str} (hk : k ∈ kinds) {a : V} : Ret tbl (d + 2) "is_formed" [.tup [.str (Str.ofString "ask"), .str k, a]] (.bool true) := by
  refine .of T.is_formed rfl fun H Q X hq => ?_
  walk_at "evr"
  exact (ret_is_kind T hk).use rfl hq
theorem formed_hand {k x : Str} (hk : k ∈ kinds) (hx : NameOK x) {a b : V} : Ret tbl (d + 2) "is_formed" [.tup [.str (Str.ofString "hand"), .str k, .str x, a, b]] (.bool true) := by
  refine .of T.is_formed rfl fun H Q X hq => ?_
  walk_at "evr"
  refine (ret_is_kind T hk).use rfl ?_
  refine brsT_ rfl ?_
  walk_at "ev"
  exact (ret_is_name T hx).use rfl hq
end

section
variable {tbl : Tbl} (T : Chk tbl) {d : Nat} {l : Int} {K : List Str}
include T
theorem inner_sum {a b : V} : Ret tbl (d + 1) "inner_of" [.tup [.str (Str.ofString "sum"), a, b], kn K] (.lst [.tup [a, kn K], .tup [b, kn K]]) := by
  refine .of T.inner_of rfl fun H Q X hq => ?_
  walk_at "evr"
  show compGo _ _ _ _ [a, b] _ _ _
  refine compC_ ?_
  walk_at "ev"
  refine compC_ ?_
  walk_at "ev"
  refine compN_ ?_
  walk_at "ev"
  exact hq
theorem inner_choose {a b c : V} : Ret tbl (d + 1) "inner_of" [.tup [.str (Str.ofString "choose"), a, b, c], kn K] (.lst [.tup [a, kn K], .tup [b, kn K], .tup [c, kn K]]) := by
  refine .of T.inner_of rfl fun H Q X hq => ?_
  walk_at "evr"
  show compGo _ _ _ _ [a, b, c] _ _ _
  refine compC_ ?_
  walk_at "ev"
  refine compC_ ?_
  walk_at "ev"
  refine compC_ ?_
  walk_at "ev"
  refine compN_ ?_
  walk_at "ev"
  exact hq
theorem kn_add (x : Str) : V.tup (K.map .str ++ [.str x]) = kn (K ++ [x]) := by simp [kn]
theorem inner_let {x : Str} {a b : V} (hK : K.length ≤ 1000) : Ret tbl (d + 1) "inner_of" [.tup [.str (Str.ofString "let"), .str x, a, b], kn K] (.lst [.tup [a, kn K], .tup [b, kn (K ++ [x])]]) := by
  refine .of T.inner_of rfl fun H Q X hq => ?_
  walk_at "evr"
  refine ⟨by unfold sizeLine; simp; omega, ?_⟩
  walk_at "ev"
  rw [← kn_add T x] at hq
  exact hq
theorem inner_ask {k : Str} {a : V} : Ret tbl (d + 1) "inner_of" [.tup [.str (Str.ofString "ask"), .str k, a], kn K] (.lst [.tup [a, kn K]]) := by
  refine .of T.inner_of rfl fun H Q X hq => ?_
  walk_at "evr"
  exact hq
theorem inner_hand {k x : Str} {a b : V} (hK : K.length ≤ 1000) : Ret tbl (d + 1) "inner_of" [.tup [.str (Str.ofString "hand"), .str k, .str x, a, b], kn K] (.lst [.tup [a, kn (K ++ [x])], .tup [b, kn K]]) := by
  refine .of T.inner_of rfl fun H Q X hq => ?_
  walk_at "evr"
  refine ⟨by unfold sizeLine; simp; omega, ?_⟩
  walk_at "ev"
  rw [← kn_add T x] at hq
  exact hq
theorem inner_leaf {w : Str} {v : V} (hw : w = Str.ofString "num" ∨ w = Str.ofString "name") : Ret tbl (d + 1) "inner_of" [.tup [.str w, v], kn K] (.lst []) := by
  refine .of T.inner_of rfl fun H Q X hq => ?_
  rcases hw with rfl | rfl
  · walk_at "evr"; exact hq
  · walk_at "evr"; exact hq

/-- too tall -/
theorem cnt_tall {v : V} (hl : 30 < l) : RetX tbl (d + 1) "counted" [v, .int l, kn K] (.inr 0) := by
  refine .of T.counted rfl fun H Q X hq hx => ?_
  walk_at "ev"
  refine brsT_ (decide_eq_true hl) ?_
  walk_at "ev"
  exact hx 0 rfl
/-- no piece -/
theorem cnt_bad {v : V} (hl : l ≤ 30) (hb : Ret tbl d "is_formed" [v] (.bool false)) : RetX tbl (d + 1) "counted" [v, .int l, kn K] (.inr 1) := by
  refine .of T.counted rfl fun H Q X hq hx => ?_
  walk_at "ev"
  refine brsF_ (decide_eq_false (by omega)) ?_
  walk_at "ev"
  refine hb.use rfl ?_
  refine brsT_ rfl ?_
  walk_at "ev"
  exact hx 1 rfl
/-- the parts, one behind the other -/
theorem cnt_loop {H : Hp} {U : Fl → Rho → Hp → Prop} {X : XP} : ∀ (ps : List (V × V × Res)) (n : Nat) (ρ : Rho), (∀ p ∈ ps, RetX tbl d "counted" [p.1, .int (l + 1), p.2.1] p.2.2) → ρ 1 = some (.int l) → ρ 3 = some (.int n) →
    (∀ ρ' (m : Nat), (ps.map (·.2.2)).foldl plus (.inl n) = .inl m → ρ' 3 = some (.int m) → U .next ρ' H) → (∀ c, (ps.map (·.2.2)).foldl plus (.inl n) = .inr c → X c H) →
    for2L 4 5 (m_counted_b1 (Spec tbl d)) (ps.map fun p => .tup [p.1, p.2.1]) ρ H U X
  | [], n, ρ, _, h1, h3, hU, hx => for2N_ (hU ρ n rfl h3)
  | (a, k, r) :: ps, n, ρ, hp, h1, h3, hU, hx => by
    have stop : ∀ (ps : List (V × V × Res)) (c : Nat), (ps.map (·.2.2)).foldl plus (.inr c) = .inr c := fun ps c => by
      induction ps with
      | nil => rfl
      | cons p ps ih => exact ih
    refine for2C_ ?_
    walk_at "ev"
    refine (hp _ List.mem_cons_self).use (fun m e => ?_) fun c e => hx c ?_
    · walk_at "ev"
      have e' : r = .inl m := e
      subst e'
      refine cnt_loop ps (n + m) _ (fun p h => hp p (List.mem_cons_of_mem _ h)) h1 ?_ hU hx
      show some (V.int ((n : Int) + m)) = _
      rw [Int.natCast_add]
    · have e' : r = .inr c := e
      subst e'
      exact stop ps c
theorem cnt_parts {w : Str} {vs : List V} (hn : vs.length ≤ 100) (hl : l ≤ 30) (hw : decide (w = Str.ofString "name") = false) (hf : Ret tbl d "is_formed" [.tup (.str w :: vs)] (.bool true)) (ps : List (V × V × Res)) (hi : Ret tbl d "inner_of" [.tup (.str w :: vs), kn K] (.lst (ps.map fun p => .tup [p.1, p.2.1])))
    (hb : (V.lst (ps.map fun p => .tup [p.1, p.2.1])).bel 0 = true) (hp : ∀ p ∈ ps, RetX tbl d "counted" [p.1, .int (l + 1), p.2.1] p.2.2) : RetX tbl (d + 1) "counted" [.tup (.str w :: vs), .int l, kn K] ((ps.map (·.2.2)).foldl plus (.inl 1)) := by
  refine .of T.counted rfl fun H Q X hq hx => ?_
  walk_at "ev"
  refine brsF_ (decide_eq_false (by omega)) ?_
  walk_at "ev"
  refine hf.use rfl ?_
  refine brsF_ rfl ?_
  walk_at "ev"
  refine ex_ (item_tup (k := 0) (x := .str w) rfl (by simp; omega)) ?_
  walk_at "ev"
  refine brsF_ hw ?_
  refine brsF_ rfl ?_
  walk_at "ev"
  refine hi.use hb ?_
  refine cnt_loop T ps 1 _ hp rfl rfl (fun ρ' m e h3 => ?_) hx
  walk_at "ev"
  exact hq m e
end

theorem strsOf_str : ∀ K : List Str, strsOf (K.map V.str) = some K
  | [] => rfl
  | x :: K => by rw [List.map_cons, strsOf, strsOf_str K]; rfl
theorem notIn_tup (x : Str) (K : List Str) (H : Hp) : cmpop .NotIn (.str x) (kn K) H = some (!K.contains x) := by
  show (((some (K.map V.str)).bind strsOf).map (·.contains x)).map _ = _
  rw [Option.bind_some, strsOf_str]; rfl
section
variable {tbl : Tbl} (T : Chk tbl) {d : Nat} {l : Int} {K : List Str}
include T
theorem cnt_name {x : Str} (hx : NameOK x) (hl : l ≤ 30) : RetX tbl (d + 3) "counted" [.tup [.str (Str.ofString "name"), .str x], .int l, kn K] (if K.contains x then .inl 1 else .inr 2) := by
  refine .of T.counted rfl fun H Q X hq hx' => ?_
  walk_at "ev"
  refine brsF_ (decide_eq_false (by omega)) ?_
  walk_at "ev"
  refine (formed_name T hx).use rfl ?_
  refine brsF_ rfl ?_
  walk_at "evr"
  refine ex_ (notIn_tup x K H) ?_
  walk_at "ev"
  refine brs_ (fun e => ?_) fun e => ?_
  · refine brsT_ rfl ?_
    walk_at "ev"
    have : K.contains x = false := by simpa using e
    rw [this] at hx'
    exact hx' 2 rfl
  · refine brsF_ rfl ?_
    walk_at "ev"
    have : K.contains x = true := by simpa using e
    rw [this] at hq
    refine (inner_leaf T (.inr rfl)).use rfl ?_
    refine for2N_ ?_
    walk_at "ev"
    exact hq 1 rfl
theorem pair_bel (ps : List (V × V × Res)) (h : ∀ p ∈ ps, p.1.bel 0 = true ∧ p.2.1.bel 0 = true) : (V.lst (ps.map fun p => .tup [p.1, p.2.1])).bel 0 = true := by
  rw [V.bel]
  induction ps with
  | nil => rfl
  | cons p ps ih =>
    have := h p List.mem_cons_self
    simp [belL, V.bel, this.1, this.2, ih fun q hq => h q (List.mem_cons_of_mem _ hq)]
theorem ret_checked {v : V} {r : Res} (h : RetX tbl d "counted" [v, .int 1, kn []] r) : RetX tbl (d + 1) "checked" [v] r := by
  refine .of T.checked rfl fun H Q X hq hx => ?_
  walk_at "ev"
  exact h.use hq hx
/-- the refusal's word -/
noncomputable def wordOf : Res → Str
  | .inl _ => Str.ofString ""
  | .inr c => refW c
theorem ret_refusal {v : V} {r : Res} (h : RetX tbl d "checked" [v] r) : Ret tbl (d + 1) "_law_refusal" [v] (.str (wordOf r)) := by
  refine .of T.refusal rfl fun H Q X hq => ?_
  walk_at "ev"
  refine h.use (fun n e => ?_) fun c e => ?_
  · walk_at "ev"
    rw [e] at hq; exact hq
  · rw [e] at hq; exact hq
end

theorem name_signs_bad {S : Orc} {H : Hp} {U : Fl → Rho → Hp → Prop} {X : XP} : ∀ (l : List Nat) (ρ : Rho), l.any (fun c => !decide (c ∈ abc.cps.toList)) = true → (∀ ρ', U (.ret (.bool false)) ρ' H) → forL 1 (m_is_name_b1 S) (l.map fun c => .str ⟨#[c]⟩) ρ H U X
  | [], ρ, h, _ => by cases h
  | c :: l, ρ, h, hU => by
    refine forC_ ?_
    walk_at "ev"
    refine brs_ (fun e => ?_) fun e => ?_
    · walk_at "ev"
      exact hU _
    · walk_at "ev"
      have e' : (!decide (c ∈ abc.cps.toList)) = false := e
      refine name_signs_bad l _ ?_ hU
      rw [List.any_cons, e'] at h
      exact h
section
variable {tbl : Tbl} (T : Chk tbl) {d : Nat}
include T
theorem nm_bad {x : Str} (h1 : 1 ≤ x.length) (h8 : x.length ≤ 8) (hb : x.cps.toList.any (fun c => !decide (c ∈ abc.cps.toList)) = true) : Ret tbl (d + 1) "is_name" [.str x] (.bool false) := by
  refine .of T.is_name rfl fun H Q X hq => ?_
  walk_at "evl"
  refine brsT_ (decide_eq_true (by omega)) ?_
  walk_at "ev"
  refine brsF_ (by show (!decide ((x.length : Int) ≤ 8)) = false; rw [decide_eq_true (show (x.length : Int) ≤ 8 by omega)]; rfl) ?_
  refine brsF_ rfl ?_
  walk_at "ev"
  exact name_signs_bad _ _ hb fun ρ' => hq
theorem nm_len {x : Str} (h : x.length = 0 ∨ (8 < x.length ∧ x.length < 100)) : Ret tbl (d + 1) "is_name" [.str x] (.bool false) := by
  refine .of T.is_name rfl fun H Q X hq => ?_
  have hx : x.length < 2 ^ 63 := by omega
  walk_at "evl"
  refine brs_ (fun e => ?_) fun e => ?_
  · have e1 : (1 : Int) ≤ x.length := of_decide_eq_true e
    walk_at "ev"
    refine brsT_ (by show (!decide ((x.length : Int) ≤ 8)) = true; rw [decide_eq_false (by omega)]; rfl) ?_
    walk_at "evr"
    exact hq
  · walk_at "evr"
    exact hq
theorem nm_not {v : V} (hv : ∀ H, isi v .str H = some false) : Ret tbl (d + 1) "is_name" [v] (.bool false) := by
  refine .of T.is_name rfl fun H Q X hq => ?_
  have h1 := hv H
  walk_at "evr"
  exact hq
theorem kd_bad {x : Str} (h : [Str.ofString "coin", Str.ofString "fail", Str.ofString "line"].contains x = false) : Ret tbl (d + 1) "is_kind" [.str x] (.bool false) := by
  refine .of T.is_kind rfl fun H Q X hq => ?_
  walk_at "evl"
  show Q (.bool ([Str.ofString "coin", Str.ofString "fail", Str.ofString "line"].contains x)) H
  rw [h]; exact hq
theorem kd_not {v : V} (hv : ∀ H, isi v .str H = some false) : Ret tbl (d + 1) "is_kind" [v] (.bool false) := by
  refine .of T.is_kind rfl fun H Q X hq => ?_
  have h1 := hv H
  walk_at "evr"
  exact hq
theorem nb_not {v : V} (hv : ∀ H, isi v .int H = some false) : Ret tbl (d + 1) "is_number" [v] (.bool false) := by
  refine .of T.is_number rfl fun H Q X hq => ?_
  have h1 := hv H
  walk_at "evr"
  exact hq
theorem nb_bool : Ret tbl (d + 1) "is_number" [.bool true] (.bool false) := by
  refine .of T.is_number rfl fun H Q X hq => ?_
  walk_at "evr"
  exact hq
theorem nb_neg {n : Int} (h : n < 0) : Ret tbl (d + 1) "is_number" [.int n] (.bool false) := by
  refine .of T.is_number rfl fun H Q X hq => ?_
  walk_at "evl"
  refine brsF_ (decide_eq_false (by omega)) ?_
  exact hq
theorem nb_big {n : Int} (h : 999 < n) : Ret tbl (d + 1) "is_number" [.int n] (.bool false) := by
  refine .of T.is_number rfl fun H Q X hq => ?_
  walk_at "evl"
  refine brsT_ (decide_eq_true (by omega)) ?_
  walk_at "ev"
  show Q (.bool (decide (n ≤ 999))) H
  rw [decide_eq_false (by omega)]; exact hq
theorem fb_not {v : V} (hv : ∀ H, isi v .tuple H = some false) : Ret tbl (d + 2) "is_formed" [v] (.bool false) := by
  refine .of T.is_formed rfl fun H Q X hq => ?_
  have h1 := hv H
  walk_at "evr"
  exact hq
theorem fb_nil : Ret tbl (d + 2) "is_formed" [.tup []] (.bool false) := by
  refine .of T.is_formed rfl fun H Q X hq => ?_
  walk_at "evr"
  exact hq
theorem fb_head {a : V} {r : List V} (hr : r.length ≤ 10) (ha : ∀ H, isi a .str H = some false) : Ret tbl (d + 2) "is_formed" [.tup (a :: r)] (.bool false) := by
  refine .of T.is_formed rfl fun H Q X hq => ?_
  have h1 := ha H
  have hi : item (.tup (a :: r)) (.int 0) H = some a := item_tup (k := 0) rfl (by simp; omega)
  walk_at "ev"
  refine brsF_ rfl ?_
  walk_at "ev"
  refine ⟨by rw [List.length_cons]; omega, ?_⟩
  walk_at "ev"
  refine brsF_ (decide_eq_false (by rw [List.length_cons]; omega)) ?_
  walk_at "evr"
  exact hq
theorem fb_len {w : Str} {r : List V} {n : Int} (hr : r.length ≤ 10) (h : (dlook vLengths w).getD (.int 0) = .int n) (hn : n ≠ (r.length + 1 : Nat)) : Ret tbl (d + 2) "is_formed" [.tup (.str w :: r)] (.bool false) := by
  refine .of T.is_formed rfl fun H Q X hq => ?_
  have hi : item (.tup (.str w :: r)) (.int 0) H = some (.str w) := item_tup (k := 0) rfl (by simp; omega)
  walk_at "ev"
  refine brsF_ rfl ?_
  walk_at "ev"
  refine ⟨by rw [List.length_cons]; omega, ?_⟩
  walk_at "ev"
  refine brsF_ (decide_eq_false (by rw [List.length_cons]; omega)) ?_
  walk_at "evr"
  refine ⟨by rw [List.length_cons]; omega, ?_⟩
  rw [h]
  walk_at "ev"
  refine brsT_ (decide_eq_true (by rw [List.length_cons]; exact hn)) ?_
  walk_at "ev"
  exact hq
theorem fb_num {v : V} (h : ∀ {d}, Ret tbl (d + 1) "is_number" [v] (.bool false)) : Ret tbl (d + 2) "is_formed" [.tup [.str (Str.ofString "num"), v]] (.bool false) := by
  refine .of T.is_formed rfl fun H Q X hq => ?_
  walk_at "evr"
  exact h.use rfl hq
theorem fb_name {v : V} (h : ∀ {d}, Ret tbl (d + 1) "is_name" [v] (.bool false)) : Ret tbl (d + 2) "is_formed" [.tup [.str (Str.ofString "name"), v]] (.bool false) := by
  refine .of T.is_formed rfl fun H Q X hq => ?_
  walk_at "evr"
  exact h.use rfl hq
theorem fb_let {v a b : V} (h : ∀ {d}, Ret tbl (d + 1) "is_name" [v] (.bool false)) : Ret tbl (d + 2) "is_formed" [.tup [.str (Str.ofString "let"), v, a, b]] (.bool false) := by
  refine .of T.is_formed rfl fun H Q X hq => ?_
  walk_at "evr"
  exact h.use rfl hq
theorem fb_ask {v a : V} (h : ∀ {d}, Ret tbl (d + 1) "is_kind" [v] (.bool false)) : Ret tbl (d + 2) "is_formed" [.tup [.str (Str.ofString "ask"), v, a]] (.bool false) := by
  refine .of T.is_formed rfl fun H Q X hq => ?_
  walk_at "evr"
  exact h.use rfl hq
theorem fb_hand1 {v x a b : V} (h : ∀ {d}, Ret tbl (d + 1) "is_kind" [v] (.bool false)) : Ret tbl (d + 2) "is_formed" [.tup [.str (Str.ofString "hand"), v, x, a, b]] (.bool false) := by
  refine .of T.is_formed rfl fun H Q X hq => ?_
  walk_at "evr"
  refine h.use rfl ?_
  refine brsF_ rfl ?_
  exact hq
theorem fb_hand2 {k : Str} {v a b : V} (hk : k ∈ kinds) (h : ∀ {d}, Ret tbl (d + 1) "is_name" [v] (.bool false)) : Ret tbl (d + 2) "is_formed" [.tup [.str (Str.ofString "hand"), .str k, v, a, b]] (.bool false) := by
  refine .of T.is_formed rfl fun H Q X hq => ?_
  walk_at "evr"
  refine (ret_is_kind T hk).use rfl ?_
  refine brsT_ rfl ?_
  walk_at "ev"
  exact h.use rfl hq
end
/-- counted refuses it as no piece -/
noncomputable def Says (tbl : Tbl) (v : V) (top : Int) (r : Res) : Prop := v.bel 0 = true ∧ ∀ (d : Nat) (l : Int) (K : List Str), l ≤ top → K.length ≤ 850 → RetX tbl (d + 5) "counted" [v, .int l, kn K] r
noncomputable def CntBad (tbl : Tbl) (v : V) : Prop := v.bel 0 = true ∧ ∀ (d : Nat) (l : Int) (K : List Str), l ≤ 29 → K.length ≤ 800 → RetX tbl (d + 6) "counted" [v, .int l, kn K] (.inr 1)
section
variable {tbl : Tbl} (T : Chk tbl) {d : Nat} {l : Int} {K : List Str}
include T
theorem no_piece {v : V} (h : ∀ {d}, Ret tbl (d + 2) "is_formed" [v] (.bool false)) (hl : l ≤ 30) : RetX tbl (d + 5) "counted" [v, .int l, kn K] (.inr 1) := cnt_bad T hl h
theorem cb_of {v : V} (hb : v.bel 0 = true) (h : ∀ {d}, Ret tbl (d + 2) "is_formed" [v] (.bool false)) : CntBad tbl v := ⟨hb, fun d l K hl _ => cnt_bad T (by omega) h⟩
theorem ok_num (n : Int) (h0 : 0 ≤ n) (h1 : n ≤ 999) (hl : l ≤ 30) : RetX tbl (d + 5) "counted" [.tup [.str (Str.ofString "num"), .int n], .int l, kn K] (.inl 1) :=
  cnt_parts T (K := K) (vs := [.int n]) (by show 1 ≤ 100; decide) hl (by decide +kernel) (formed_num T h0 h1) [] (inner_leaf T (.inl rfl)) rfl (fun _ h => absurd h List.not_mem_nil)
theorem cb_sum  {a b : V} {ra rb : Res} (ha : Says tbl a 30 ra) (hb : Says tbl b 30 rb) (e : plus (plus ((.inl 1 : Res)) ra) rb = .inr 1) : CntBad tbl (.tup [.str (Str.ofString "sum"), a, b]) := by
  refine ⟨by simp [V.bel, belL, ha.1, hb.1], fun d l K hl hk => ?_⟩
  rw [← e]
  refine cnt_parts T (K := K) (vs := [a, b]) (by show 2 ≤ 100; decide) (by omega) (by decide +kernel) (formed_sum T) [(a, kn K, ra), (b, kn K, rb)] (inner_sum T) (pair_bel T _ (by simp [ha.1, hb.1, kn_bel])) ?_
  intro p hp
  simp only [List.mem_cons, List.not_mem_nil, or_false] at hp
  rcases hp with rfl | rfl
  · exact ha.2 d (l + 1) _ (by omega) (by first | omega | (simp; omega))
  · exact hb.2 d (l + 1) _ (by omega) (by first | omega | (simp; omega))
theorem cb_choose  {a b c : V} {ra rb rc : Res} (ha : Says tbl a 30 ra) (hb : Says tbl b 30 rb) (hc : Says tbl c 30 rc) (e : plus (plus (plus ((.inl 1 : Res)) ra) rb) rc = .inr 1) : CntBad tbl (.tup [.str (Str.ofString "choose"), a, b, c]) := by
  refine ⟨by simp [V.bel, belL, ha.1, hb.1, hc.1], fun d l K hl hk => ?_⟩
  rw [← e]
  refine cnt_parts T (K := K) (vs := [a, b, c]) (by show 3 ≤ 100; decide) (by omega) (by decide +kernel) (formed_choose T) [(a, kn K, ra), (b, kn K, rb), (c, kn K, rc)] (inner_choose T) (pair_bel T _ (by simp [ha.1, hb.1, hc.1, kn_bel])) ?_
  intro p hp
  simp only [List.mem_cons, List.not_mem_nil, or_false] at hp
  rcases hp with rfl | rfl | rfl
  · exact ha.2 d (l + 1) _ (by omega) (by first | omega | (simp; omega))
  · exact hb.2 d (l + 1) _ (by omega) (by first | omega | (simp; omega))
  · exact hc.2 d (l + 1) _ (by omega) (by first | omega | (simp; omega))
theorem cb_let {x : Str} (hx : NameOK x) {a b : V} {ra rb : Res} (ha : Says tbl a 30 ra) (hb : Says tbl b 30 rb) (e : plus (plus ((.inl 1 : Res)) ra) rb = .inr 1) : CntBad tbl (.tup [.str (Str.ofString "let"), .str x, a, b]) := by
  refine ⟨by simp [V.bel, belL, ha.1, hb.1], fun d l K hl hk => ?_⟩
  rw [← e]
  refine cnt_parts T (K := K) (vs := [.str x, a, b]) (by show 3 ≤ 100; decide) (by omega) (by decide +kernel) (formed_let T hx) [(a, kn K, ra), (b, kn (K ++ [x]), rb)] (inner_let T (by omega)) (pair_bel T _ (by simp [ha.1, hb.1, kn_bel])) ?_
  intro p hp
  simp only [List.mem_cons, List.not_mem_nil, or_false] at hp
  rcases hp with rfl | rfl
  · exact ha.2 d (l + 1) _ (by omega) (by first | omega | (simp; omega))
  · exact hb.2 d (l + 1) _ (by omega) (by first | omega | (simp; omega))
theorem cb_ask {k : Str} (hk : k ∈ kinds) {a : V} {ra : Res} (ha : Says tbl a 30 ra) (e : plus ((.inl 1 : Res)) ra = .inr 1) : CntBad tbl (.tup [.str (Str.ofString "ask"), .str k, a]) := by
  refine ⟨by simp [V.bel, belL, ha.1], fun d l K hl hk' => ?_⟩
  rw [← e]
  refine cnt_parts T (K := K) (vs := [.str k, a]) (by show 2 ≤ 100; decide) (by omega) (by decide +kernel) (formed_ask T hk) [(a, kn K, ra)] (inner_ask T) (pair_bel T _ (by simp [ha.1, kn_bel])) ?_
  intro p hp
  simp only [List.mem_cons, List.not_mem_nil, or_false] at hp
  rcases hp with rfl
  · exact ha.2 d (l + 1) _ (by omega) (by first | omega | (simp; omega))
theorem cb_hand {k x : Str} (hk : k ∈ kinds) (hx : NameOK x) {a b : V} {ra rb : Res} (ha : Says tbl a 30 ra) (hb : Says tbl b 30 rb) (e : plus (plus ((.inl 1 : Res)) ra) rb = .inr 1) : CntBad tbl (.tup [.str (Str.ofString "hand"), .str k, .str x, a, b]) := by
  refine ⟨by simp [V.bel, belL, ha.1, hb.1], fun d l K hl hk' => ?_⟩
  rw [← e]
  refine cnt_parts T (K := K) (vs := [.str k, .str x, a, b]) (by show 4 ≤ 100; decide) (by omega) (by decide +kernel) (formed_hand T hk hx) [(a, kn (K ++ [x]), ra), (b, kn K, rb)] (inner_hand T (by omega)) (pair_bel T _ (by simp [ha.1, hb.1, kn_bel])) ?_
  intro p hp
  simp only [List.mem_cons, List.not_mem_nil, or_false] at hp
  rcases hp with rfl | rfl
  · exact ha.2 d (l + 1) _ (by omega) (by first | omega | (simp; omega))
  · exact hb.2 d (l + 1) _ (by omega) (by first | omega | (simp; omega))
end
theorem nmOK_a : NameOK (Str.ofString "a") := ⟨by decide +kernel, by decide +kernel, by unfold Low; decide +kernel⟩
noncomputable def badL : List V := [.none, .int 7, .str (Str.ofString "num"), .lst [], .tup [], .tup [.str (Str.ofString "num")], .tup [.str (Str.ofString "num"), .int (-1)], .tup [.str (Str.ofString "num"), .int 1000], .tup [.str (Str.ofString "num"), .bool true], .tup [.str (Str.ofString "num"), .str (Str.ofString "1")], .tup [.str (Str.ofString "num"), .none], .tup [.str (Str.ofString "num"), .int 1, .int 2], .lst [.str (Str.ofString "num"), .int 1], .tup [.str (Str.ofString "name"), .str (Str.ofString "")], .tup [.str (Str.ofString "name"), .str (Str.ofString "abcdefghi")], .tup [.str (Str.ofString "name"), .str (Str.ofString "a1")], .tup [.str (Str.ofString "name"), .str (Str.ofString "Ab")], .tup [.str (Str.ofString "name"), .int 5], .tup [.str (Str.ofString "name"), .str (Str.ofString "0")], .tup [.str (Str.ofString "name")], .tup [.str (Str.ofString "sum"), .tup [.str (Str.ofString "num"), .int 1]], .tup [.str (Str.ofString "Sum"), .tup [.str (Str.ofString "num"), .int 1], .tup [.str (Str.ofString "num"), .int 1]], .tup [.str (Str.ofString "let"), .str (Str.ofString "a"), .tup [.str (Str.ofString "num"), .int 1]], .tup [.str (Str.ofString "let"), .str (Str.ofString ""), .tup [.str (Str.ofString "num"), .int 1], .tup [.str (Str.ofString "num"), .int 1]], .tup [.str (Str.ofString "let"), .int 1, .tup [.str (Str.ofString "num"), .int 1], .tup [.str (Str.ofString "num"), .int 1]], .tup [.str (Str.ofString "let"), .str (Str.ofString "a b"), .tup [.str (Str.ofString "num"), .int 1], .tup [.str (Str.ofString "num"), .int 1]], .tup [.str (Str.ofString "choose"), .tup [.str (Str.ofString "num"), .int 1], .tup [.str (Str.ofString "num"), .int 2]], .tup [.str (Str.ofString "ask"), .str (Str.ofString "line")], .tup [.str (Str.ofString "ask"), .str (Str.ofString "lines"), .tup [.str (Str.ofString "num"), .int 1]], .tup [.str (Str.ofString "ask"), .none, .tup [.str (Str.ofString "num"), .int 1]], .tup [.str (Str.ofString "ask"), .str (Str.ofString "Coin"), .tup [.str (Str.ofString "num"), .int 1]], .tup [.int 1, .int 2], .tup [.str (Str.ofString "ask"), .str (Str.ofString ""), .tup [.str (Str.ofString "num"), .int 1]], .tup [.str (Str.ofString "ask"), .str (Str.ofString "coin"), .tup [.str (Str.ofString "num"), .int 1], .tup [.str (Str.ofString "num"), .int 1]], .tup [.str (Str.ofString "hand"), .str (Str.ofString "coin"), .str (Str.ofString "a"), .tup [.str (Str.ofString "num"), .int 1]], .tup [.str (Str.ofString "hand"), .str (Str.ofString "line "), .str (Str.ofString "a"), .tup [.str (Str.ofString "num"), .int 1], .tup [.str (Str.ofString "num"), .int 1]], .tup [.str (Str.ofString "hand"), .str (Str.ofString "fail"), .str (Str.ofString ""), .tup [.str (Str.ofString "num"), .int 1], .tup [.str (Str.ofString "num"), .int 1]], .tup [.str (Str.ofString "hand"), .str (Str.ofString "fail"), .int 3, .tup [.str (Str.ofString "num"), .int 1], .tup [.str (Str.ofString "num"), .int 1]], .tup [.str (Str.ofString "hand"), .int 0, .str (Str.ofString "a"), .tup [.str (Str.ofString "num"), .int 1], .tup [.str (Str.ofString "num"), .int 1]], .tup [.none, .int 1], .tup [.str (Str.ofString "sum"), .tup [.str (Str.ofString "num"), .int 1], .int 5], .tup [.str (Str.ofString "sum"), .int 5, .tup [.str (Str.ofString "num"), .int 1]], .tup [.str (Str.ofString "ask"), .str (Str.ofString "coin"), .str (Str.ofString "num")], .tup [.str (Str.ofString "let"), .str (Str.ofString "a"), .int 1, .tup [.str (Str.ofString "num"), .int 1]], .tup [.str (Str.ofString "choose"), .tup [.str (Str.ofString "num"), .int 0], .tup [.str (Str.ofString "num"), .int 1], .none], .tup [.str (Str.ofString "hand"), .str (Str.ofString "coin"), .str (Str.ofString "a"), .tup [.str (Str.ofString "num"), .int 1], .lst [.tup [.str (Str.ofString "num"), .int 1]]], .tup [.str (Str.ofString "sum")], .tup [.str (Str.ofString ""), .int 1], .tup [.str (Str.ofString "ask"), .tup [.str (Str.ofString "line")], .tup [.str (Str.ofString "num"), .int 1]], .tup [.str (Str.ofString "name"), .none], .tup [.tup [.str (Str.ofString "num"), .int 1]], .tup [.str (Str.ofString "hand"), .str (Str.ofString "coin"), .str (Str.ofString "A"), .tup [.str (Str.ofString "num"), .int 1], .tup [.str (Str.ofString "num"), .int 1]], .tup [.str (Str.ofString "hand"), .str (Str.ofString "line"), .none, .tup [.str (Str.ofString "num"), .int 1], .tup [.str (Str.ofString "num"), .int 1]], .tup [.str (Str.ofString "hand"), .str (Str.ofString "coin"), .str (Str.ofString "a1"), .tup [.str (Str.ofString "num"), .int 1], .tup [.str (Str.ofString "num"), .int 1]], .tup [.lst [.str (Str.ofString "num")], .int 1], .tup [.dct [], .int 1], .tup [.str (Str.ofString "name"), .lst [.str (Str.ofString "a")]], .tup [.str (Str.ofString "ask"), .lst [.str (Str.ofString "line")], .tup [.str (Str.ofString "num"), .int 1]], .tup [.str (Str.ofString "hand"), .dct [], .str (Str.ofString "a"), .tup [.str (Str.ofString "num"), .int 1], .tup [.str (Str.ofString "num"), .int 1]], .tup [.str (Str.ofString "let"), .lst [.str (Str.ofString "a")], .tup [.str (Str.ofString "num"), .int 1], .tup [.str (Str.ofString "num"), .int 1]]]

theorem bad_all {tbl : Tbl} (T : Chk tbl) : AllL (CntBad tbl) badL :=
  .cons (cb_of T rfl (fb_not T fun _ => rfl)) <|
  .cons (cb_of T rfl (fb_not T fun _ => rfl)) <|
  .cons (cb_of T rfl (fb_not T fun _ => rfl)) <|
  .cons (cb_of T rfl (fb_not T fun _ => rfl)) <|
  .cons (cb_of T rfl (fb_nil T)) <|
  .cons (cb_of T rfl (fb_len T (n := 2) (by decide) rfl (by decide))) <|
  .cons (cb_of T rfl (fb_num T (nb_neg T (by decide)))) <|
  .cons (cb_of T rfl (fb_num T (nb_big T (by decide)))) <|
  .cons (cb_of T rfl (fb_num T (nb_bool T))) <|
  .cons (cb_of T rfl (fb_num T (nb_not T fun _ => rfl))) <|
  .cons (cb_of T rfl (fb_num T (nb_not T fun _ => rfl))) <|
  .cons (cb_of T rfl (fb_len T (n := 2) (by decide) rfl (by decide))) <|
  .cons (cb_of T rfl (fb_not T fun _ => rfl)) <|
  .cons (cb_of T rfl (fb_name T (nm_len T (by decide +kernel)))) <|
  .cons (cb_of T rfl (fb_name T (nm_len T (by decide +kernel)))) <|
  .cons (cb_of T rfl (fb_name T (nm_bad T (by decide +kernel) (by decide +kernel) (by decide +kernel)))) <|
  .cons (cb_of T rfl (fb_name T (nm_bad T (by decide +kernel) (by decide +kernel) (by decide +kernel)))) <|
  .cons (cb_of T rfl (fb_name T (nm_not T fun _ => rfl))) <|
  .cons (cb_of T rfl (fb_name T (nm_bad T (by decide +kernel) (by decide +kernel) (by decide +kernel)))) <|
  .cons (cb_of T rfl (fb_len T (n := 2) (by decide) rfl (by decide))) <|
  .cons (cb_of T rfl (fb_len T (n := 3) (by decide) rfl (by decide))) <|
  .cons (cb_of T rfl (fb_len T (n := 0) (by decide) rfl (by decide))) <|
  .cons (cb_of T rfl (fb_len T (n := 4) (by decide) rfl (by decide))) <|
  .cons (cb_of T rfl (fb_let T (nm_len T (by decide +kernel)))) <|
  .cons (cb_of T rfl (fb_let T (nm_not T fun _ => rfl))) <|
  .cons (cb_of T rfl (fb_let T (nm_bad T (by decide +kernel) (by decide +kernel) (by decide +kernel)))) <|
  .cons (cb_of T rfl (fb_len T (n := 4) (by decide) rfl (by decide))) <|
  .cons (cb_of T rfl (fb_len T (n := 3) (by decide) rfl (by decide))) <|
  .cons (cb_of T rfl (fb_ask T (kd_bad T (by decide +kernel)))) <|
  .cons (cb_of T rfl (fb_ask T (kd_not T fun _ => rfl))) <|
  .cons (cb_of T rfl (fb_ask T (kd_bad T (by decide +kernel)))) <|
  .cons (cb_of T rfl (fb_head T (by decide) fun _ => rfl)) <|
  .cons (cb_of T rfl (fb_ask T (kd_bad T (by decide +kernel)))) <|
  .cons (cb_of T rfl (fb_len T (n := 3) (by decide) rfl (by decide))) <|
  .cons (cb_of T rfl (fb_len T (n := 5) (by decide) rfl (by decide))) <|
  .cons (cb_of T rfl (fb_hand1 T (kd_bad T (by decide +kernel)))) <|
  .cons (cb_of T rfl (fb_hand2 T (by decide +kernel) (nm_len T (by decide +kernel)))) <|
  .cons (cb_of T rfl (fb_hand2 T (by decide +kernel) (nm_not T fun _ => rfl))) <|
  .cons (cb_of T rfl (fb_hand1 T (kd_not T fun _ => rfl))) <|
  .cons (cb_of T rfl (fb_head T (by decide) fun _ => rfl)) <|
  .cons (cb_sum T ⟨rfl, fun d l K hl hk => ok_num T 1 (by decide) (by decide) hl⟩ ⟨rfl, fun d l K hl hk => no_piece T (fb_not T fun _ => rfl) hl⟩ rfl) <|
  .cons (cb_sum T ⟨rfl, fun d l K hl hk => no_piece T (fb_not T fun _ => rfl) hl⟩ ⟨rfl, fun d l K hl hk => ok_num T 1 (by decide) (by decide) hl⟩ rfl) <|
  .cons (cb_ask T (by decide +kernel) ⟨rfl, fun d l K hl hk => no_piece T (fb_not T fun _ => rfl) hl⟩ rfl) <|
  .cons (cb_let T nmOK_a ⟨rfl, fun d l K hl hk => no_piece T (fb_not T fun _ => rfl) hl⟩ ⟨rfl, fun d l K hl hk => ok_num T 1 (by decide) (by decide) hl⟩ rfl) <|
  .cons (cb_choose T ⟨rfl, fun d l K hl hk => ok_num T 0 (by decide) (by decide) hl⟩ ⟨rfl, fun d l K hl hk => ok_num T 1 (by decide) (by decide) hl⟩ ⟨rfl, fun d l K hl hk => no_piece T (fb_not T fun _ => rfl) hl⟩ rfl) <|
  .cons (cb_hand T (by decide +kernel) nmOK_a ⟨rfl, fun d l K hl hk => ok_num T 1 (by decide) (by decide) hl⟩ ⟨rfl, fun d l K hl hk => no_piece T (fb_not T fun _ => rfl) hl⟩ rfl) <|
  .cons (cb_of T rfl (fb_len T (n := 3) (by decide) rfl (by decide))) <|
  .cons (cb_of T rfl (fb_len T (n := 0) (by decide) rfl (by decide))) <|
  .cons (cb_of T rfl (fb_ask T (kd_not T fun _ => rfl))) <|
  .cons (cb_of T rfl (fb_name T (nm_not T fun _ => rfl))) <|
  .cons (cb_of T rfl (fb_head T (by decide) fun _ => rfl)) <|
  .cons (cb_of T rfl (fb_hand2 T (by decide +kernel) (nm_bad T (by decide +kernel) (by decide +kernel) (by decide +kernel)))) <|
  .cons (cb_of T rfl (fb_hand2 T (by decide +kernel) (nm_not T fun _ => rfl))) <|
  .cons (cb_of T rfl (fb_hand2 T (by decide +kernel) (nm_bad T (by decide +kernel) (by decide +kernel) (by decide +kernel)))) <|
  .cons (cb_of T rfl (fb_head T (by decide) fun _ => rfl)) <|
  .cons (cb_of T rfl (fb_head T (by decide) fun _ => rfl)) <|
  .cons (cb_of T rfl (fb_name T (nm_not T fun _ => rfl))) <|
  .cons (cb_of T rfl (fb_ask T (kd_not T fun _ => rfl))) <|
  .cons (cb_of T rfl (fb_hand1 T (kd_not T fun _ => rfl))) <|
  .cons (cb_of T rfl (fb_let T (nm_not T fun _ => rfl))) <|
  .nil

theorem bad_len : badL.length = 60 := by decide +kernel
theorem pick_mem {xs : List V} (h : xs.length ≤ 1000) {i : Int} (h0 : 0 ≤ i) (h1 : i < xs.length) (H : Hp) : ∃ v ∈ xs, item (.lst xs) (.int i) H = some v := by
  obtain ⟨k, rfl⟩ := Int.eq_ofNat_of_zero_le h0
  have hk : k < xs.length := by omega
  exact ⟨xs[k], List.getElem_mem _, item_lst (by simp [hk]) (by omega)⟩
theorem ret_bad {tbl : Tbl} (T : Chk tbl) (h : tbl "_law_bad" = some (1, m__law_bad)) (n : Int) (d : Nat) : RetP tbl (d + 1) "_law_bad" [.int n] fun v => CntBad tbl v := by
  refine .of h rfl fun H Q X hq => ?_
  obtain ⟨v, hv, e⟩ := pick_mem (xs := badL) (by rw [bad_len]; decide) (i := n % 60) (by omega) (by rw [bad_len]; omega) H
  walk_at "ev"
  exact hq v ((bad_all T).all v hv)

noncomputable def abd : Str := Str.ofString "abd"
/-- what counted comes to, at level l, where abd is no name; the depth of calls as told -/
noncomputable def Tow (tbl : Tbl) (n : Nat) (v : V) (l : Int) (r : Res) : Prop := v.bel 0 = true ∧ ∀ (d : Nat) (K : List Str), abd ∉ K → K.length + n ≤ 800 → RetX tbl (d + n) "counted" [v, .int l, kn K] r
/-- the order in which the parts come -/
noncomputable def lvl (way : Nat) (r o : Res) : Res := match way with
  | 0 | 2 | 8 => plus (plus (.inl 1) r) o
  | 1 | 3 | 9 => plus (plus (.inl 1) o) r
  | 4 => plus (plus (plus (.inl 1) r) o) o
  | 5 => plus (plus (plus (.inl 1) o) r) o
  | 6 => plus (plus (plus (.inl 1) o) o) r
  | _ => plus (.inl 1) r
section
variable {tbl : Tbl} (T : Chk tbl) {n : Nat} {a b c : V} {l : Int} {ra rb rc : Res}
include T
theorem tow_tall {v : V} (hb : v.bel 0 = true) (hn : 1 ≤ n) (hl : 30 < l) : Tow tbl n v l (.inr 0) := ⟨hb, fun d K _ _ => by
  obtain ⟨m, rfl⟩ : ∃ m, n = m + 1 := ⟨n - 1, by omega⟩
  exact cnt_tall T hl⟩
theorem tow_num (k : Nat) (hk : k ≤ 999) (hn : 6 ≤ n) (hl : l ≤ 30) : Tow tbl n (.tup [.str (Str.ofString "num"), .int k]) l (.inl 1) := ⟨rfl, fun d K _ _ => by
  obtain ⟨m, rfl⟩ : ∃ m, n = m + 5 := ⟨n - 5, by omega⟩
  exact ok_num T (d := d + m) k (by omega) (by omega) hl⟩
theorem abd_ok : NameOK abd := ⟨by decide +kernel, by decide +kernel, by unfold Low; decide +kernel⟩
theorem tow_abd (hn : 6 ≤ n) (hl : l ≤ 30) : Tow tbl n (.tup [.str (Str.ofString "name"), .str abd]) l (.inr 2) := ⟨rfl, fun d K hK _ => by
  obtain ⟨m, rfl⟩ : ∃ m, n = m + 3 := ⟨n - 3, by omega⟩
  have := cnt_name T (d := d + m) (K := K) (abd_ok T) hl
  rw [if_neg (by simpa using hK)] at this
  exact this⟩
theorem tow_bad {v : V} (h : CntBad tbl v) (hn : 6 ≤ n) (hl : l ≤ 29) : Tow tbl n v l (.inr 1) := ⟨h.1, fun d K _ hk => by
  obtain ⟨m, rfl⟩ : ∃ m, n = m + 6 := ⟨n - 6, by omega⟩
  exact h.2 (d + m) l K hl (by omega)⟩
theorem tow_sum (ha : Tow tbl n a (l + 1) ra) (hb : Tow tbl n b (l + 1) rb) (hn : 6 ≤ n) (hl : l ≤ 30) : Tow tbl (n + 1) (.tup [.str (Str.ofString "sum"), a, b]) l (plus (plus (.inl 1) ra) rb) := by
  refine ⟨by simp [V.bel, belL, ha.1, hb.1], fun d K hK hk => ?_⟩
  obtain ⟨m, rfl⟩ : ∃ m, n = m + 2 := ⟨n - 2, by omega⟩
  refine cnt_parts T (d := d + m + 2) (K := K) (vs := [a, b]) (by show 2 ≤ 100; decide) hl (by decide +kernel) (formed_sum T) [(a, kn K, ra), (b, kn K, rb)] (inner_sum T) (pair_bel T _ (by simp [ha.1, hb.1, kn_bel])) ?_
  intro p hp
  simp only [List.mem_cons, List.not_mem_nil, or_false] at hp
  rcases hp with rfl | rfl
  · exact ha.2 d K hK (by omega)
  · exact hb.2 d K hK (by omega)
theorem tow_choose (ha : Tow tbl n a (l + 1) ra) (hb : Tow tbl n b (l + 1) rb) (hc : Tow tbl n c (l + 1) rc) (hn : 6 ≤ n) (hl : l ≤ 30) : Tow tbl (n + 1) (.tup [.str (Str.ofString "choose"), a, b, c]) l (plus (plus (plus (.inl 1) ra) rb) rc) := by
  refine ⟨by simp [V.bel, belL, ha.1, hb.1, hc.1], fun d K hK hk => ?_⟩
  obtain ⟨m, rfl⟩ : ∃ m, n = m + 2 := ⟨n - 2, by omega⟩
  refine cnt_parts T (d := d + m + 2) (K := K) (vs := [a, b, c]) (by show 3 ≤ 100; decide) hl (by decide +kernel) (formed_choose T) [(a, kn K, ra), (b, kn K, rb), (c, kn K, rc)] (inner_choose T) (pair_bel T _ (by simp [ha.1, hb.1, hc.1, kn_bel])) ?_
  intro p hp
  simp only [List.mem_cons, List.not_mem_nil, or_false] at hp
  rcases hp with rfl | rfl | rfl
  · exact ha.2 d K hK (by omega)
  · exact hb.2 d K hK (by omega)
  · exact hc.2 d K hK (by omega)
theorem tow_let {x : Str} (hx : NameOK x) (hx' : x ≠ abd) (ha : Tow tbl n a (l + 1) ra) (hb : Tow tbl n b (l + 1) rb) (hn : 6 ≤ n) (hl : l ≤ 30) : Tow tbl (n + 1) (.tup [.str (Str.ofString "let"), .str x, a, b]) l (plus (plus (.inl 1) ra) rb) := by
  refine ⟨by simp [V.bel, belL, ha.1, hb.1], fun d K hK hk => ?_⟩
  obtain ⟨m, rfl⟩ : ∃ m, n = m + 2 := ⟨n - 2, by omega⟩
  refine cnt_parts T (d := d + m + 2) (K := K) (vs := [.str x, a, b]) (by show 3 ≤ 100; decide) hl (by decide +kernel) (formed_let T hx) [(a, kn K, ra), (b, kn (K ++ [x]), rb)] (inner_let T (by omega)) (pair_bel T _ (by simp [ha.1, hb.1, kn_bel])) ?_
  intro p hp
  simp only [List.mem_cons, List.not_mem_nil, or_false] at hp
  rcases hp with rfl | rfl
  · exact ha.2 d K hK (by omega)
  · exact hb.2 d (K ++ [x]) (by simp [hK, Ne.symm hx']) (by simp; omega)
theorem tow_ask {k : Str} (hk : k ∈ kinds) (ha : Tow tbl n a (l + 1) ra) (hn : 6 ≤ n) (hl : l ≤ 30) : Tow tbl (n + 1) (.tup [.str (Str.ofString "ask"), .str k, a]) l (plus (.inl 1) ra) := by
  refine ⟨by simp [V.bel, belL, ha.1], fun d K hK hk' => ?_⟩
  obtain ⟨m, rfl⟩ : ∃ m, n = m + 2 := ⟨n - 2, by omega⟩
  refine cnt_parts T (d := d + m + 2) (K := K) (vs := [.str k, a]) (by show 2 ≤ 100; decide) hl (by decide +kernel) (formed_ask T hk) [(a, kn K, ra)] (inner_ask T) (pair_bel T _ (by simp [ha.1, kn_bel])) ?_
  intro p hp
  simp only [List.mem_cons, List.not_mem_nil, or_false] at hp
  rcases hp with rfl
  exact ha.2 d K hK (by omega)
theorem tow_hand {k x : Str} (hk : k ∈ kinds) (hx : NameOK x) (hx' : x ≠ abd) (ha : Tow tbl n a (l + 1) ra) (hb : Tow tbl n b (l + 1) rb) (hn : 6 ≤ n) (hl : l ≤ 30) : Tow tbl (n + 1) (.tup [.str (Str.ofString "hand"), .str k, .str x, a, b]) l (plus (plus (.inl 1) ra) rb) := by
  refine ⟨by simp [V.bel, belL, ha.1, hb.1], fun d K hK hk' => ?_⟩
  obtain ⟨m, rfl⟩ : ∃ m, n = m + 2 := ⟨n - 2, by omega⟩
  refine cnt_parts T (d := d + m + 2) (K := K) (vs := [.str k, .str x, a, b]) (by show 4 ≤ 100; decide) hl (by decide +kernel) (formed_hand T hk hx) [(a, kn (K ++ [x]), ra), (b, kn K, rb)] (inner_hand T (by omega)) (pair_bel T _ (by simp [ha.1, hb.1, kn_bel])) ?_
  intro p hp
  simp only [List.mem_cons, List.not_mem_nil, or_false] at hp
  rcases hp with rfl | rfl
  · exact ha.2 d (K ++ [x]) (by simp [hK, Ne.symm hx']) (by simp; omega)
  · exact hb.2 d K hK (by omega)
/-- one level about it -/
theorem ret_lvl (h : tbl "_law_level" = some (5, m__law_level)) (way : Nat) (hw : way < 10) {x k : Str} (hx : NameOK x) (hx' : x ≠ abd) (hk : k ∈ kinds) {v o : V} {r ro : Res} (hv : Tow tbl n v (l + 1) r) (ho : Tow tbl n o (l + 1) ro) (hn : 6 ≤ n) (d : Nat) :
    RetP tbl (d + 1) "_law_level" [.int way, .str x, .str k, v, o] fun u => u.bel 0 = true ∧ (l ≤ 30 → Tow tbl (n + 1) u l (lvl way r ro)) := by
  refine .of h rfl fun H Q X hq => ?_
  have hb := hv.1
  have hb' := ho.1
  have hway : way = 0 ∨ way = 1 ∨ way = 2 ∨ way = 3 ∨ way = 4 ∨ way = 5 ∨ way = 6 ∨ way = 7 ∨ way = 8 ∨ way = 9 := by omega
  rcases hway with rfl | rfl | rfl | rfl | rfl | rfl | rfl | rfl | rfl | rfl <;> walk_at "evr"
  · exact hq _ ⟨by simp [retV, V.bel, belL, hb, hb'], tow_sum T hv ho hn⟩
  · exact hq _ ⟨by simp [retV, V.bel, belL, hb, hb'], tow_sum T ho hv hn⟩
  · exact hq _ ⟨by simp [retV, V.bel, belL, hb, hb'], tow_let T hx hx' hv ho hn⟩
  · exact hq _ ⟨by simp [retV, V.bel, belL, hb, hb'], tow_let T hx hx' ho hv hn⟩
  · exact hq _ ⟨by simp [retV, V.bel, belL, hb, hb'], tow_choose T hv ho ho hn⟩
  · exact hq _ ⟨by simp [retV, V.bel, belL, hb, hb'], tow_choose T ho hv ho hn⟩
  · exact hq _ ⟨by simp [retV, V.bel, belL, hb, hb'], tow_choose T ho ho hv hn⟩
  · exact hq _ ⟨by simp [retV, V.bel, belL, hb, hb'], tow_ask T hk hv hn⟩
  · exact hq _ ⟨by simp [retV, V.bel, belL, hb, hb'], tow_hand T hk hx hx' hv ho hn⟩
  · exact hq _ ⟨by simp [retV, V.bel, belL, hb, hb'], tow_hand T hk hx hx' ho hv hn⟩
end
noncomputable def addOf (way : Nat) : Nat := match way with
  | 4 | 5 | 6 => 3
  | 7 => 1
  | _ => 2
/-- what is due, and what counted comes to -/
noncomputable def Due (due : Str) (many : Int) (r : Res) : Prop := (due = Str.ofString "" ∧ ∃ m : Nat, many = m ∧ r = .inl m) ∨ ∃ c, c ≤ 2 ∧ due = refW c ∧ r = .inr c
theorem due_num {due : Str} {many : Int} {r : Res} (way : Nat) (hw : way < 10) (h : Due due many r) : Due due (many + addOf way) (lvl way r (.inl 1)) := by
  have hway : way = 0 ∨ way = 1 ∨ way = 2 ∨ way = 3 ∨ way = 4 ∨ way = 5 ∨ way = 6 ∨ way = 7 ∨ way = 8 ∨ way = 9 := by omega
  rcases h with ⟨h1, m, rfl, rfl⟩ | ⟨c, hc, h1, rfl⟩
  · rcases hway with rfl | rfl | rfl | rfl | rfl | rfl | rfl | rfl | rfl | rfl <;> exact .inl ⟨h1, _, by simp only [addOf]; omega, rfl⟩
  · rcases hway with rfl | rfl | rfl | rfl | rfl | rfl | rfl | rfl | rfl | rfl <;> exact .inr ⟨c, hc, h1, rfl⟩
/-- the name that is not known comes first -/
theorem due_first {due : Str} {many many' : Int} {r : Res} (way : Nat) (hw : way = 1 ∨ way = 3 ∨ way = 5 ∨ way = 6 ∨ way = 9) (h : Due due many r) : Due (Str.ofString "name") many' (lvl way r (.inr 2)) := by
  rcases hw with rfl | rfl | rfl | rfl | rfl <;> exact .inr ⟨2, Nat.le_refl _, rfl, rfl⟩
theorem due_after {due : Str} {many many' : Int} {r : Res} (way : Nat) (hw : way = 0 ∨ way = 2 ∨ way = 4 ∨ way = 8) (h : Due due many r) : (due = Str.ofString "" → Due (Str.ofString "name") many' (lvl way r (.inr 2))) ∧ (due ≠ Str.ofString "" → Due due many' (lvl way r (.inr 2))) := by
  rcases h with ⟨h1, m, rfl, rfl⟩ | ⟨c, hc, h1, rfl⟩
  · refine ⟨fun _ => ?_, fun q => absurd h1 q⟩
    rcases hw with rfl | rfl | rfl | rfl <;> exact .inr ⟨2, Nat.le_refl _, rfl, rfl⟩
  · refine ⟨fun q => ?_, fun _ => ?_⟩
    · exfalso
      rw [h1] at q
      match c, hc with
      | 0, _ => exact absurd q (by decide +kernel)
      | 1, _ => exact absurd q (by decide +kernel)
      | 2, _ => exact absurd q (by decide +kernel)
    · rcases hw with rfl | rfl | rfl | rfl <;> exact .inr ⟨c, hc, h1, rfl⟩
theorem due_ask {due : Str} {many : Int} {r o : Res} (h : Due due many r) : Due due (many + 1) (lvl 7 r o) := by
  rcases h with ⟨h1, m, rfl, rfl⟩ | ⟨c, hc, h1, rfl⟩
  · exact .inl ⟨h1, 1 + m, by omega, rfl⟩
  · exact .inr ⟨c, hc, h1, rfl⟩
theorem due_tall {many : Int} (way : Nat) (hw : way < 10) : lvl way (.inr 0) (.inr 0) = .inr 0 := by
  have hway : way = 0 ∨ way = 1 ∨ way = 2 ∨ way = 3 ∨ way = 4 ∨ way = 5 ∨ way = 6 ∨ way = 7 ∨ way = 8 ∨ way = 9 := by omega
  rcases hway with rfl | rfl | rfl | rfl | rfl | rfl | rfl | rfl | rfl | rfl <;> rfl
theorem add_at {way : Nat} (hw : way < 10) (H : Hp) : item (.lst [.int 2, .int 2, .int 2, .int 2, .int 3, .int 3, .int 3, .int 1, .int 2, .int 2]) (.int way) H = some (.int (addOf way)) := by
  have hway : way = 0 ∨ way = 1 ∨ way = 2 ∨ way = 3 ∨ way = 4 ∨ way = 5 ∨ way = 6 ∨ way = 7 ∨ way = 8 ∨ way = 9 := by omega
  rcases hway with rfl | rfl | rfl | rfl | rfl | rfl | rfl | rfl | rfl | rfl <;> rfl
theorem nameOK_of {x : Str} (h : decide (1 ≤ x.cps.size) && decide (x.cps.size ≤ 8) && x.cps.toList.all (fun c => decide (97 ≤ c) && decide (c ≤ 122)) = true) : NameOK x := by
  simp only [Bool.and_eq_true, decide_eq_true_eq, List.all_eq_true] at h
  exact ⟨h.1.1, h.1.2, fun c hc => h.2 c hc⟩
theorem seven_at {i : Int} (h0 : 0 ≤ i) (h7 : i < 7) (H : Hp) : ∃ x : Str, NameOK x ∧ x ≠ abd ∧ item (.lst [.str (Str.ofString "a"), .str (Str.ofString "ab"), .str (Str.ofString "abc"), .str (Str.ofString "abdd"), .str (Str.ofString "bd"), .str (Str.ofString "abe"), .str (Str.ofString "d")]) (.int i) H = some (.str x) := by
  have hi : i = 0 ∨ i = 1 ∨ i = 2 ∨ i = 3 ∨ i = 4 ∨ i = 5 ∨ i = 6 := by omega
  rcases hi with rfl | rfl | rfl | rfl | rfl | rfl | rfl
  · exact ⟨Str.ofString "a", nameOK_of (by decide +kernel), by decide +kernel, rfl⟩
  · exact ⟨Str.ofString "ab", nameOK_of (by decide +kernel), by decide +kernel, rfl⟩
  · exact ⟨Str.ofString "abc", nameOK_of (by decide +kernel), by decide +kernel, rfl⟩
  · exact ⟨Str.ofString "abdd", nameOK_of (by decide +kernel), by decide +kernel, rfl⟩
  · exact ⟨Str.ofString "bd", nameOK_of (by decide +kernel), by decide +kernel, rfl⟩
  · exact ⟨Str.ofString "abe", nameOK_of (by decide +kernel), by decide +kernel, rfl⟩
  · exact ⟨Str.ofString "d", nameOK_of (by decide +kernel), by decide +kernel, rfl⟩
theorem kind_at {i : Int} (h0 : 0 ≤ i) (h3 : i < 3) (H : Hp) : ∃ k ∈ kinds, item (.lst [.str (Str.ofString "coin"), .str (Str.ofString "fail"), .str (Str.ofString "line")]) (.int i) H = some (.str k) := by
  have hi : i = 0 ∨ i = 1 ∨ i = 2 := by omega
  rcases hi with rfl | rfl | rfl
  · exact ⟨Str.ofString "coin", by decide +kernel, rfl⟩
  · exact ⟨Str.ofString "fail", by decide +kernel, rfl⟩
  · exact ⟨Str.ofString "line", by decide +kernel, rfl⟩

theorem Due.zero {due : Str} {many many' : Int} (h : Due due many (.inr 0)) : Due due many' (.inr 0) := by
  rcases h with ⟨_, m, _, e⟩ | ⟨c, hc, h1, e⟩
  · cases e
  · exact .inr ⟨c, hc, h1, e⟩
/-- how it stands before the turn k of L -/
noncomputable def Inv (tbl : Tbl) (L k : Nat) (v : V) (due : Str) (many : Int) : Prop := ∃ r, Tow tbl (6 + k) v ((L : Int) + 1 - k) r ∧ Due due many r ∧ (30 < (L : Int) + 1 - k → r = .inr 0)
theorem holds_b1 {tbl : Tbl} (T : Chk tbl) (hm : tbl "_law_mixed" = some (2, m__law_mixed)) (hv : tbl "_law_level" = some (5, m__law_level)) {d : Nat} {L : Nat} (hL : L ≤ 31) {second : Int} {H : Hp} {U : Fl → Rho → Hp → Prop} {X : XP} :
    ∀ (n k : Nat) (v : V) (due : Str) (many : Int) (ρ : Rho), k + n = L → Inv tbl L k v due many → ρ 2 = some (.int second) → ρ 3 = some v → ρ 4 = some (.str due) → ρ 5 = some (.int many) → ρ 6 = some (.int L) →
    (∀ ρ' v' due' many', Inv tbl L L v' due' many' → ρ' 3 = some v' → ρ' 4 = some (.str due') → ρ' 5 = some (.int many') → U .next ρ' H) → forL 7 (m__law_holds_b1 (Spec tbl (d + 1))) ((List.range' k n).map fun j => .int (j : Nat)) ρ H U X
  | 0, k, v, due, many, ρ, hk, hI, h2, h3, h4, h5, h6, hU => by
    have : k = L := by omega
    subst this
    exact forN_ (hU ρ v due many hI h3 h4 h5)
  | n + 1, k, v, due, many, ρ, hk, hI, h2, h3, h4, h5, h6, hU => by
    rw [List.range'_succ, List.map_cons]
    refine forC_ ?_
    walk_at "ev"
    refine (ret_mixed hm second k d).use (fun v ⟨m, _, e⟩ => e ▸ rfl) fun w ⟨m, hm0, e⟩ => ?_
    subst e
    obtain ⟨r, hT, hD, h30⟩ := hI
    obtain ⟨way, hway⟩ := Int.eq_ofNat_of_zero_le (show 0 ≤ m % 10 by omega)
    have hw10 : way < 10 := by omega
    generalize hl : (L : Int) + 1 - k = l at *
    walk_at "ev"
    refine brs_abs fun K hK => ?_
    have tail : ∀ (due' : Str) (o : V) (ro : Res) (ρ₁ : Rho), Tow tbl (6 + k) o l ro → Due due' (many + addOf way) (lvl way r ro) → (30 < l → ro = .inr 0) → ρ₁ 2 = some (.int second) → ρ₁ 3 = some v → ρ₁ 4 = some (.str due') → ρ₁ 5 = some (.int many) → ρ₁ 6 = some (.int L) → ρ₁ 7 = some (.int k) → ρ₁ 8 = some (.int m) → ρ₁ 9 = some (.int way) → ρ₁ 10 = some o →
        K .next ρ₁ H := by
      intro due' o ro ρ₁ ho hd' hro g2 g3 g4 g5 g6 g7 g8 g9 g10
      rw [hK]
      clear hK
      obtain ⟨x, hx, hx', ex⟩ := seven_at (i := m / 80 % 7) (by omega) (by omega) H
      obtain ⟨kd, hkd, ek⟩ := kind_at (i := (k : Int) % 3) (by omega) (by omega) H
      have ea := add_at hw10 H
      walk_at "ev"
      have hT' : Tow tbl (6 + k) v ((l - 1) + 1) r := by rw [Int.sub_add_cancel]; exact hT
      have ho' : Tow tbl (6 + k) o ((l - 1) + 1) ro := by rw [Int.sub_add_cancel]; exact ho
      refine (ret_lvl T hv way hw10 hx hx' hkd hT' ho' (by omega) d).use (fun u h => h.1) fun u hu => ?_
      walk_at "ev"
      have hall : 30 < l → lvl way r ro = .inr 0 := fun h => by rw [h30 h, hro h]; exact due_tall (many := 0) way hw10
      refine holds_b1 T hm hv hL n (k + 1) u due' (many + addOf way) _ (by omega) ⟨lvl way r ro, ?_, hd', fun h => hall (by omega)⟩ g2 rfl g4 rfl g6 hU
      rw [show (L : Int) + 1 - (k + 1 : Nat) = l - 1 by omega]
      by_cases q : l - 1 ≤ 30
      · exact hu.2 q
      · rw [hall (by omega)]
        exact tow_tall T hu.1 (by omega) (by omega)
    have g9 : (some (V.int (m % 10)) : Option V) = some (.int way) := by rw [hway]
    have hnum : ∃ ro, Tow tbl (6 + k) (.tup [.str (Str.ofString "num"), .int k]) l ro ∧ Due due (many + addOf way) (lvl way r ro) ∧ (30 < l → ro = .inr 0) := by
      by_cases q : 30 < l
      · exact ⟨.inr 0, tow_tall T rfl (by omega) q, by rw [h30 q, due_tall (many := 0) way hw10]; rw [h30 q] at hD; exact hD.zero, fun _ => rfl⟩
      · exact ⟨.inl 1, tow_num T k (by omega) (by omega) (by omega), due_num way hw10 hD, fun h => absurd h q⟩
    have habd : ∃ ro, Tow tbl (6 + k) (.tup [.str (Str.ofString "name"), .str abd]) l ro ∧ (30 < l → ro = .inr 0) ∧ (l ≤ 30 → ro = .inr 2) := by
      by_cases q : 30 < l
      · exact ⟨.inr 0, tow_tall T rfl (by omega) q, fun _ => rfl, fun h => absurd q (by omega)⟩
      · exact ⟨.inr 2, tow_abd T (by omega) (by omega), fun h => absurd h q, fun _ => rfl⟩
    clear hK
    refine brs_ (fun e => ?_) fun e => ?_
    · obtain ⟨ro, t1, t2, t3⟩ := habd
      have fin := fun (due' : Str) (ρ₁ : Rho) (a : Due due' (many + addOf way) (lvl way r ro)) => tail due' _ ro ρ₁ t1 a t2
      walk_at "ev"
      refine brs_ (fun e1 => ?_) fun e1 => ?_
      · have e1' : (L : Int) - k < 30 := of_decide_eq_true e1
        have er := t3 (by omega)
        subst er
        walk_at "ev"
        refine brs_ (fun e2 => ?_) fun e2 => ?_
        · have hw : way = 1 ∨ way = 3 ∨ way = 5 ∨ way = 6 ∨ way = 9 := by
            rw [hway] at e2
            simp at e2
            omega
          walk_at "evr"
          exact fin _ _ (due_first way hw hD) h2 h3 rfl h5 h6 rfl rfl g9 rfl
        · have hw : way = 0 ∨ way = 2 ∨ way = 4 ∨ way = 7 ∨ way = 8 := by
            rw [hway] at e2
            simp at e2
            omega
          walk_at "ev"
          refine brs_ (fun e3 => ?_) fun e3 => ?_
          · have e3' : due = Str.ofString "" := of_decide_eq_true e3
            walk_at "ev"
            refine brs_ (fun e4 => ?_) fun e4 => ?_
            · have e4' : m % 10 ≠ 7 := of_decide_eq_true e4
              walk_at "evr"
              exact fin _ _ ((due_after way (by omega) hD).1 e3') h2 h3 rfl h5 h6 rfl rfl g9 rfl
            · have e4' : ¬ (m % 10 ≠ 7) := of_decide_eq_false e4
              have h7 : way = 7 := by omega
              subst h7
              walk_at "evr"
              exact fin due _ (due_ask hD) h2 h3 h4 h5 h6 rfl rfl g9 rfl
          · have e3' : due ≠ Str.ofString "" := of_decide_eq_false e3
            walk_at "evr"
            by_cases h7 : way = 7
            · subst h7
              exact fin due _ (due_ask hD) h2 h3 h4 h5 h6 rfl rfl g9 rfl
            · exact fin due _ ((due_after way (by omega) hD).2 e3') h2 h3 h4 h5 h6 rfl rfl g9 rfl
      · have e1' : ¬ ((L : Int) - k < 30) := of_decide_eq_false e1
        have q : 30 < l := by omega
        have er := t2 q
        subst er
        walk_at "evr"
        refine fin due _ ?_ h2 h3 h4 h5 h6 rfl rfl g9 rfl
        rw [h30 q, due_tall (many := 0) way hw10]
        rw [h30 q] at hD
        exact hD.zero
    · obtain ⟨ro, t1, t2, t3⟩ := hnum
      walk_at "ev"
      exact tail due _ ro _ t1 t2 t3 h2 h3 h4 h5 h6 rfl rfl g9 rfl

theorem spec_of {tbl : Tbl} {d n : Nat} {f : String} {vs : List V} {b : Orc → ST} {H : Hp} {Q : V → Hp → Prop} {X : XP} (hb : tbl f = some (n, b)) (hn : vs.length = n) (h : b (Spec tbl d) (fun i => vs[i]?) H (fun fl _ H' => Q (retV fl) H') X) : Spec tbl (d + 1) f vs H Q X := by
  rw [Spec_succ, hb]; exact ⟨hn, h⟩
theorem levels_at {i : Int} (h0 : 0 ≤ i) (h4 : i < 4) (H : Hp) : ∃ L : Nat, (L = 28 ∨ L = 30 ∨ L = 31) ∧ item (.lst [.int 28, .int 30, .int 30, .int 31]) (.int i) H = some (.int L) := by
  have hi : i = 0 ∨ i = 1 ∨ i = 2 ∨ i = 3 := by omega
  rcases hi with rfl | rfl | rfl | rfl
  · exact ⟨28, .inl rfl, rfl⟩
  · exact ⟨30, .inr (.inl rfl), rfl⟩
  · exact ⟨30, .inr (.inl rfl), rfl⟩
  · exact ⟨31, .inr (.inr rfl), rfl⟩
theorem upto_range (L : Nat) : upto (L : Int) = (List.range' 0 L).map fun j => .int (j : Nat) := by
  simp [upto, List.range_eq_range']
section
variable {tbl : Tbl} (T : Chk tbl) (hm : tbl "_law_mixed" = some (2, m__law_mixed)) (hv : tbl "_law_level" = some (5, m__law_level)) (hb : tbl "_law_bad" = some (1, m__law_bad)) (hh : tbl "_law_holds" = some (3, m__law_holds)) (hw : tbl "_law_whole" = some (1, m__law_whole))
include T hm hv hb hh hw
theorem holds_end {H : Hp} {Q : V → Hp → Prop} {X : XP} {L : Nat} (hL : L ≤ 31) {v : V} {due : Str} {many : Int} {ρ : Rho} (hI : Inv tbl L L v due many) (h3 : ρ 3 = some v) (h4 : ρ 4 = some (.str due)) (h5 : ρ 5 = some (.int many)) (hq : Q (.bool true) H) (d : Nat) :
    blk (m__law_holds_q4_8 (Spec tbl (d + 60))) ρ H (fun fl _ H' => Q (retV fl) H') X := by
  obtain ⟨r, hT, hD, _⟩ := hI
  rw [show (L : Int) + 1 - L = 1 by omega] at hT
  have hc : ∀ e : Nat, RetX tbl (e + (6 + L)) "counted" [v, .int 1, kn []] r := fun e => hT.2 e [] (by simp) (by simp; omega)
  rcases hD with ⟨rfl, m, rfl, rfl⟩ | ⟨c, hc2, rfl, rfl⟩
  · walk_at "evr"
    have hk : RetX tbl (d + 60) "checked" [v] (.inl m) := by
      have := ret_checked T (hc (d + 60 - 1 - (6 + L)))
      rw [show d + 60 - 1 - (6 + L) + (6 + L) + 1 = d + 60 by omega] at this
      exact this
    refine hk.use (fun n e => ?_) fun c e => nomatch e
    cases e
    walk_at "ev"
    refine (ret_whole hw m (d + 59)).use rfl ?_
    refine brsT_ rfl ?_
    walk_at "ev"
    show Q (.bool (decide ((m : Int) = m))) H
    rw [decide_eq_true rfl]; exact hq
  · walk_at "ev"
    refine brsT_ ?_ ?_
    · match c, hc2 with
      | 0, _ => decide +kernel
      | 1, _ => decide +kernel
      | 2, _ => decide +kernel
    walk_at "ev"
    have hk : RetX tbl (d + 59) "checked" [v] (.inr c) := by
      have := ret_checked T (hc (d + 59 - 1 - (6 + L)))
      rw [show d + 59 - 1 - (6 + L) + (6 + L) + 1 = d + 59 by omega] at this
      exact this
    refine (ret_refusal T hk).use rfl ?_
    walk_at "ev"
    show Q (.bool (decide (refW c = refW c))) H
    rw [decide_eq_true rfl]; exact hq
theorem ret_holds {more : Int} (h0 : 0 ≤ more) (first second : Int) (d : Nat) : Ret tbl (d + 61) "_law_holds" [.int more, .int first, .int second] (.bool true) := by
  refine .of hh rfl fun H Q X hq => ?_
  walk_at "ev"
  refine (ret_bad T hb first (d + 59)).use (fun v h => h.1) fun v hv' => ?_
  walk_at "ev"
  refine brs_abs fun K hK => ?_
  have key : ∀ (v : V) (due : Str) (ρ : Rho), (∀ L : Nat, L ≤ 31 → (L ≤ 28 ∨ 30 ≤ L) → Inv tbl L 0 v (if 29 < L then Str.ofString "tall" else due) 1) → ρ 0 = some (.int more) → ρ 2 = some (.int second) → ρ 3 = some v → ρ 4 = some (.str due) → K .next ρ H := by
    intro v due ρ hI g0 g2 g3 g4
    rw [hK]
    clear hK
    obtain ⟨L0, hL0⟩ := Int.eq_ofNat_of_zero_le (show 0 ≤ more / 24 % 13 by omega)
    have hL12 : L0 ≤ 12 := by omega
    obtain ⟨L1, hL1, eL1⟩ := levels_at (i := more / 24 % 4) (by omega) (by omega) H
    walk_at "ev"
    refine brs_abs fun K' hK' => ?_
    have key2 : ∀ (L : Nat) (ρ : Rho), L ≤ 31 → (L ≤ 28 ∨ 30 ≤ L) → ρ 2 = some (.int second) → ρ 3 = some v → ρ 4 = some (.str due) → ρ 5 = some (.int 1) → ρ 6 = some (.int L) → K' .next ρ H := by
      intro L ρ hL hL' g2 g3 g4 g5 g6
      rw [hK']
      clear hK'
      have hI' := hI L hL hL'
      walk_at "ev"
      refine brs_abs fun K'' hK'' => ?_
      have key3 : ∀ (ρ : Rho), ρ 2 = some (.int second) → ρ 3 = some v → ρ 4 = some (.str (if 29 < L then Str.ofString "tall" else due)) → ρ 5 = some (.int 1) → ρ 6 = some (.int L) → K'' .next ρ H := by
        intro ρ g2 g3 g4 g5 g6
        rw [hK'']
        clear hK''
        walk_at "ev"
        rw [upto_range]
        refine holds_b1 T hm hv (d := d + 59) hL L 0 v _ 1 _ (by omega) hI' g2 g3 g4 g5 g6 fun ρ' v' due' many' a1 a2 a3 a4 => ?_
        exact holds_end T hm hv hb hh hw hL a1 a2 a3 a4 hq d
      refine brs_ (fun e => ?_) fun e => ?_
      · have e' : (29 : Int) < L := of_decide_eq_true e
        walk_at "ev"
        exact key3 _ g2 g3 (by rw [if_pos (by omega)]; rfl) g5 g6
      · have e' : ¬ (29 : Int) < L := of_decide_eq_false e
        walk_at "ev"
        exact key3 _ g2 g3 (by rw [if_neg (by omega)]; exact g4) g5 g6
    refine brs_ (fun e => ?_) fun e => ?_
    · walk_at "ev"
      exact key2 L1 _ (by omega) (by omega) g2 g3 g4 rfl rfl
    · walk_at "ev"
      refine key2 L0 _ (by omega) (by omega) g2 g3 g4 rfl ?_
      show some (V.int (more / 24 % 13)) = _
      rw [hL0]
  refine brs_ (fun e => ?_) fun e => ?_
  · walk_at "ev"
    obtain ⟨n0, hn0⟩ := Int.eq_ofNat_of_zero_le (show 0 ≤ more / 8 % 1000 by omega)
    refine key (.tup [.str (Str.ofString "num"), .int n0]) (Str.ofString "") _ (fun L hL hL' => ?_) rfl rfl ?_ rfl
    · by_cases q : 29 < L
      · rw [if_pos q]
        exact ⟨.inr 0, tow_tall T rfl (by omega) (by omega), .inr ⟨0, by omega, rfl, rfl⟩, fun _ => rfl⟩
      · rw [if_neg q]
        exact ⟨.inl 1, tow_num T n0 (by omega) (by omega) (by omega), .inl ⟨rfl, 1, rfl, rfl⟩, fun h => absurd h (by omega)⟩
    · show some (V.tup [.str (Str.ofString "num"), .int (more / 8 % 1000)]) = _
      rw [hn0]
  · walk_at "ev"
    refine key v (Str.ofString "piece") _ (fun L hL hL' => ?_) rfl rfl rfl rfl
    by_cases q : 29 < L
    · rw [if_pos q]
      exact ⟨.inr 0, tow_tall T hv'.1 (by omega) (by omega), .inr ⟨0, by omega, rfl, rfl⟩, fun _ => rfl⟩
    · rw [if_neg q]
      exact ⟨.inr 1, tow_bad T hv' (by omega) (by omega), .inr ⟨1, by omega, rfl, rfl⟩, fun h => absurd h (by omega)⟩
end
theorem law04 (ns : List Int) (hns : ns.length ≤ 63) (Q : V → Hp → Prop) (X : XP) (hQ : ∀ H, Q (.bool true) H) : Spec (tblOf m_l) 300 "law" [.lst (ns.map .int)] [] Q X := by
  have T : Chk (tblOf m_l) := ⟨rfl, rfl, rfl, rfl, rfl, rfl, rfl, rfl⟩
  have t1 : tblOf m_l "_law_cell_at" = some (2, m__law_cell_at) := rfl
  have t2 : tblOf m_l "_law_mixed" = some (2, m__law_mixed) := rfl
  have t3 : tblOf m_l "_law_level" = some (5, m__law_level) := rfl
  have t4 : tblOf m_l "_law_bad" = some (1, m__law_bad) := rfl
  have t5 : tblOf m_l "_law_holds" = some (3, m__law_holds) := rfl
  have t6 : tblOf m_l "_law_whole" = some (1, m__law_whole) := rfl
  have t7 : tblOf m_l "law" = some (1, m_law) := rfl
  have main : Spec (tblOf m_l) 300 "law" [encI ns] [] Q X := by
    refine spec_of t7 rfl ?_
    generalize ([] : Hp) = H
    walk_at "ev"
    have loop : ∀ (n k : Nat) (ρ : Rho), k + n = 5 → ρ 0 = some (encI ns) → forL 1 (m_law_b1 (Spec (tblOf m_l) 299)) ((List.range' k n).map fun j => .int (j : Nat)) ρ H (kont (blk (m_law_q1_1 (Spec (tblOf m_l) 299))) (fun fl _ H' => Q (retV fl) H') X) X := by
      intro n
      induction n with
      | zero =>
        intro k ρ _ h0
        refine forN_ ?_
        walk_at "ev"
        exact hQ H
      | succ n ih =>
        intro k ρ hk h0
        rw [List.range'_succ, List.map_cons]
        refine forC_ ?_
        walk_at "ev"
        refine (ret_cell_at t1 (ns := ns) (by omega) 0 298).use rfl ?_
        walk_at "ev"
        refine (ret_mixed t2 _ _ 298).use (fun v ⟨m, _, e⟩ => e ▸ rfl) fun v ⟨m, hm0, e⟩ => ?_
        subst e
        walk_at "ev"
        refine (ret_cell_at t1 (ns := ns) (by omega) 1 298).use rfl ?_
        walk_at "ev"
        refine (ret_mixed t2 _ _ 298).use (fun v ⟨m, _, e⟩ => e ▸ rfl) fun v ⟨m2, hm2, e⟩ => ?_
        subst e
        walk_at "ev"
        refine (ret_cell_at t1 (ns := ns) (by omega) 2 298).use rfl ?_
        walk_at "ev"
        refine (ret_holds T t2 t3 t4 t5 t6 (more := m / 5) (by omega) m2 _ 238).use rfl ?_
        refine brsF_ rfl ?_
        walk_at "ev"
        exact ih (k + 1) _ (by omega) h0
    exact loop 5 0 _ rfl rfl
  exact main

end Mine

section
open PySem PySem.W PyProof.Rows
set_option maxRecDepth 100000
set_option maxHeartbeats 8000000
namespace Mine
theorem said04 : PySem.W.OpenLaw.wellSaid PySem.Challenge.rw_uf030023_04 = true := by
  unfold OpenLaw.wellSaid OpenRow.wellSaid OpenRow.partSaid looksOpen
  repeat' with_reducible refine look_both ?_ ?_
  all_goals decide +kernel
theorem join04 : PySem.Challenge.rw_uf030023_04.Holds := by
  w_on
  refine holds_law said04 fun said => ?_
  o_head xHook
  case hw => w_witness2
  intro w s₀ s₁ mg mb G Y fa o pm cd doc dV kV ho hd hcd hD hmg hg args vals as hpre hlay hrd hwl hlo
  clear ho hd hcd hD
  wrow_args hpre hlay hrd hwl hlo
  rename_i ns _ _ _ _ _ _ _ a vs _ hL _ _ _ hI _ hlen _
  have T := G.T
  have B := G.B
  have hC : CxOK ⟨PySem.Challenge.rw_uf030023_04.row.prog, w, s₁.heap, mg, mb, s₁.os, 0, adrOf mg⟩ := cx_ok (C := ⟨_, w, s₁.heap, mg, mb, s₁.os, 0, adrOf mg⟩) T (by decide +kernel)
  have hM : Mods ⟨PySem.Challenge.rw_uf030023_04.row.prog, w, s₁.heap, mg, mb, s₁.os, 0, adrOf mg⟩ := by
    obtain ⟨mm, ⟨o, _, _, ho, _⟩, _⟩ := (T.seer (by decide +kernel)).mods
    exact ⟨o, ho⟩
  have hG : Consts ⟨PySem.Challenge.rw_uf030023_04.row.prog, w, s₁.heap, mg, mb, s₁.os, 0, adrOf mg⟩ := ⟨kinds_c (C := ⟨_, w, s₁.heap, mg, mb, s₁.os, 0, adrOf mg⟩) B (by kernel_rfl), letters_c (C := ⟨_, w, s₁.heap, mg, mb, s₁.os, 0, adrOf mg⟩) T (by kernel_rfl), len_c (C := ⟨_, w, s₁.heap, mg, mb, s₁.os, 0, adrOf mg⟩) Y hC.g, most_c (C := ⟨_, w, s₁.heap, mg, mb, s₁.os, 0, adrOf mg⟩) T (by kernel_rfl)⟩
  obtain ⟨aA, ca, hE⟩ := exc_c (C := ⟨PySem.Challenge.rw_uf030023_04.row.prog, w, s₁.heap, mg, mb, s₁.os, 0, adrOf mg⟩) Y hC.g ⟨T.free _ (by decide +kernel) (by decide +kernel) (by decide +kernel) (by decide +kernel) (by decide +kernel), (T.builtins _ (by decide +kernel)).trans (by kernel_rfl)⟩
  have hadr : ∀ r ∈ recsOf _, ∀ a, mg r.name = some (.ref a) → adrOf mg r.name = some a := adr_at T
  have hgood := m_good hC hM hE hG (hasDef_at T hadr 0 (by kernel_rfl)) (hasDef_at T hadr 1 (by kernel_rfl)) (hasDef_at T hadr 2 (by kernel_rfl)) (hasDef_at T hadr 3 (by kernel_rfl)) (hasDef_at T hadr 4 (by kernel_rfl)) (hasDef_at T hadr 5 (by kernel_rfl)) (hasDef_at T hadr 6 (by kernel_rfl)) (hasDef_at T hadr 7 (by kernel_rfl)) (hasDef_at T hadr 8 (by kernel_rfl)) (hasDef_at T hadr 9 (by kernel_rfl)) (hasDef_at T hadr 10 (by kernel_rfl)) (hasDef_at T hadr 11 (by kernel_rfl)) (hasDef_at T hadr 12 (by kernel_rfl)) (hasDef_at T hadr 13 (by kernel_rfl)) (hasDef_at T hadr 14 (by kernel_rfl)) 300
  refine run_law (Nat.le_refl 300) hgood hg hL hI (adr_of hmg) (law04 ns (by omega)) fun s' hk ho hgn => ⟨.inl ⟨_, .bool true, [], rfl, fun _ => rfl, .bool true, by kernel_rfl, fun _ => ⟨List.nodup_nil, fun _ h => absurd h List.not_mem_nil⟩⟩, .of_keep hk, ho, .of_eq hgn⟩
end Mine
end

theorem PySem.Challenge.cw_uf030023_04_holds : PySem.Challenge.rw_uf030023_04.Holds := by
  exact Mine.join04
